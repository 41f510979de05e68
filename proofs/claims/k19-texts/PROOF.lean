import PyProof.Rows.All
import Wide.All
import OpenK.AllK
import Wide.FinOn
import HandS.ForMost
import HandS.ForExc
import HandS.Deep
import HandS.CallSlots
import HandS.Lambda
import KE.KeyNested
import HandS.Wide
import HandS.Style
import HandS.SortInts
import HandS.IsInst
import HandS.Walk
import HandS.Zip
import HandS.DictComp
import HandS.TupAny
import HandS.TupLe
import KE.SortData
import KE.DataCmp
import HandS.Iter
import HandS.TryOnly
import HandS.TupMul
import KE.DataMinMax
import KE.KTupSum
import HandS.ExcOwn
import HandS.ExcIs
import HandS.SetFor
import HandS.EndTab
import KE.SortKeyHeap
import KE.KNestM
import HandS.Strs
import HandS.HotCalls
import KE.KDictDisplayH
import KE.KDictCopyH
import HandS.SetKeys
import HandS.Text
import HandS.FStr
import PySem.Challenge.RW_treeorders_k19_whole_texts
set_option Elab.async false
set_option linter.all false
set_option maxRecDepth 100000
set_option maxHeartbeats 4000000
set_option autoImplicit false
/-! J1: data over the abstract heap, states, outcomes, what an expression and a statement are read as. -/
namespace JL
open PySem PySem.Spec PyProof.Rows L2

/-! ### data that stands in a heap -/
mutual
inductive At (H : Hp) : V → PyData → Prop
  | non : At H .non .none
  | bl (b : Bool) : At H (.bl b) (.bool b)
  | int (i : Int) : At H (.int i) (.int i)
  | str (x : Str) : At H (.str x) (.str x)
  | lst {a : Addr} {vs : List V} {ds : List PyData} : H a = some (.lst vs) → Ats H vs ds → At H (.ref a) (.list ds)
  | tup {a : Addr} {vs : List V} {ds : List PyData} : H a = some (.tup vs) → Ats H vs ds → At H (.ref a) (.tuple ds)
inductive Ats (H : Hp) : List V → List PyData → Prop
  | nil : Ats H [] []
  | cons {v : V} {vs : List V} {d : PyData} {ds : List PyData} : At H v d → Ats H vs ds → Ats H (v :: vs) (d :: ds)
end
mutual
theorem At.mono {H H' : Hp} (s : Same H H') : ∀ {v : V} {d : PyData}, At H v d → At H' v d
  | _, _, .non => .non
  | _, _, .bl b => .bl b
  | _, _, .int i => .int i
  | _, _, .str x => .str x
  | _, _, .lst h r => .lst (s _ _ h) (Ats.mono s r)
  | _, _, .tup h r => .tup (s _ _ h) (Ats.mono s r)
theorem Ats.mono {H H' : Hp} (s : Same H H') : ∀ {vs : List V} {ds : List PyData}, Ats H vs ds → Ats H' vs ds
  | _, _, .nil => .nil
  | _, _, .cons h r => .cons (At.mono s h) (Ats.mono s r)
end
mutual
theorem At.dp {K : PySem.W.Frag} {H : Hp} : ∀ {v : V} {d : PyData}, At H v d → Dp K H v d
  | _, _, .non => .non
  | _, _, .bl b => .bl b
  | _, _, .int i => .int i
  | _, _, .str x => .str x
  | _, _, .lst h r => .lst (.inl (.inl h)) (Ats.dp r)
  | _, _, .tup h r => .tup (.inl (.inl h)) (Ats.dp r)
theorem Ats.dp {K : PySem.W.Frag} {H : Hp} : ∀ {vs : List V} {ds : List PyData}, Ats H vs ds → DpAll K H vs ds
  | _, _, .nil => .nil
  | _, _, .cons h r => .cons (At.dp h) (Ats.dp r)
end
theorem Ats.length {H : Hp} : ∀ {vs : List V} {ds : List PyData}, Ats H vs ds → vs.length = ds.length
  | _, _, .nil => rfl
  | _, _, .cons _ r => by rw [List.length_cons, List.length_cons, Ats.length r]
theorem Ats.get {H : Hp} : ∀ {vs : List V} {ds : List PyData} {i : Nat} {d : PyData}, Ats H vs ds → ds[i]? = some d → ∃ v, vs[i]? = some v ∧ At H v d
  | _, _, _, _, .nil, e => by simp at e
  | _, _, 0, _, .cons h _, e => by
    rw [List.getElem?_cons_zero] at e
    cases e
    exact ⟨_, List.getElem?_cons_zero, h⟩
  | _, _, i + 1, _, .cons _ r, e => by
    rw [List.getElem?_cons_succ] at e
    obtain ⟨v, q, h⟩ := Ats.get r e
    exact ⟨v, by rw [List.getElem?_cons_succ]; exact q, h⟩
theorem Ats.getV {H : Hp} : ∀ {vs : List V} {ds : List PyData} {i : Nat} {v : V}, Ats H vs ds → vs[i]? = some v → ∃ d, ds[i]? = some d ∧ At H v d
  | _, _, _, _, .nil, e => by simp at e
  | _, _, 0, _, .cons h _, e => by
    rw [List.getElem?_cons_zero] at e
    cases e
    exact ⟨_, List.getElem?_cons_zero, h⟩
  | _, _, i + 1, _, .cons _ r, e => by
    rw [List.getElem?_cons_succ] at e
    obtain ⟨v, q, h⟩ := Ats.getV r e
    exact ⟨v, by rw [List.getElem?_cons_succ]; exact q, h⟩
theorem Ats.append {H : Hp} : ∀ {vs ws : List V} {ds es : List PyData}, Ats H vs ds → Ats H ws es → Ats H (vs ++ ws) (ds ++ es)
  | _, _, _, _, .nil, q => q
  | _, _, _, _, .cons h r, q => .cons h (Ats.append r q)
theorem Ats.take {H : Hp} : ∀ {vs : List V} {ds : List PyData} (n : Nat), Ats H vs ds → Ats H (vs.take n) (ds.take n)
  | _, _, 0, _ => .nil
  | _, _, _ + 1, .nil => .nil
  | _, _, n + 1, .cons h r => .cons h (Ats.take n r)
theorem Ats.drop {H : Hp} : ∀ {vs : List V} {ds : List PyData} (n : Nat), Ats H vs ds → Ats H (vs.drop n) (ds.drop n)
  | _, _, 0, r => r
  | _, _, _ + 1, .nil => .nil
  | _, _, n + 1, .cons _ r => Ats.drop n r
theorem Ats.set {H : Hp} {v : V} {d : PyData} (h : At H v d) : ∀ {vs : List V} {ds : List PyData} (n : Nat), Ats H vs ds → Ats H (vs.set n v) (ds.set n d)
  | _, _, _, .nil => .nil
  | _, _, 0, .cons _ r => .cons h r
  | _, _, n + 1, .cons q r => .cons q (Ats.set h n r)
theorem Ats.reverse {H : Hp} : ∀ {vs : List V} {ds : List PyData}, Ats H vs ds → Ats H vs.reverse ds.reverse
  | _, _, .nil => .nil
  | _, _, .cons h r => by
    rw [List.reverse_cons, List.reverse_cons]
    exact Ats.append (Ats.reverse r) (.cons h .nil)
theorem Ats.one {H : Hp} {v : V} {d : PyData} (h : At H v d) : Ats H [v] [d] := .cons h .nil
theorem Ats.ints {H : Hp} : ∀ {vs : List V} {ns : List Int}, Ats H vs (ns.map .int) → vs = ns.map V.int
  | _, [], .nil => rfl
  | _, n :: ns, .cons h r => by
    cases h
    rw [Ats.ints r]
    rfl
theorem Ats.bools {H : Hp} : ∀ {vs : List V} {ns : List Bool}, Ats H vs (ns.map .bool) → vs = ns.map V.bl
  | _, [], .nil => rfl
  | _, n :: ns, .cons h r => by
    cases h
    rw [Ats.bools r]
    rfl
theorem Ats.strs {H : Hp} : ∀ {vs : List V} {ns : List Str}, Ats H vs (ns.map .str) → vs = ns.map V.str
  | _, [], .nil => rfl
  | _, n :: ns, .cons h r => by
    cases h
    rw [Ats.strs r]
    rfl
theorem ats_ints {H : Hp} : ∀ ns : List Int, Ats H (ns.map V.int) (ns.map .int)
  | [] => .nil
  | n :: r => .cons (.int n) (ats_ints r)
theorem ats_strs {H : Hp} : ∀ ns : List Str, Ats H (ns.map V.str) (ns.map .str)
  | [] => .nil
  | n :: r => .cons (.str n) (ats_strs r)

/-! ### a heap without some addresses -/
def mask (H : Hp) (L : List Addr) : Hp := fun p => if p ∈ L then none else H p
theorem mask_same {H : Hp} {L : List Addr} : Same (mask H L) H := fun b o h => by
  unfold mask at h
  split at h
  · cases h
  · exact h
theorem mask_of {H : Hp} {L : List Addr} {p : Addr} {o : HO} (h : H p = some o) (n : p ∉ L) : mask H L p = some o := by
  unfold mask
  rw [if_neg n]
  exact h
theorem of_mask {H : Hp} {L : List Addr} {p : Addr} {o : HO} (h : mask H L p = some o) : H p = some o ∧ p ∉ L := by
  unfold mask at h
  split at h
  · cases h
  · rename_i n
    exact ⟨h, n⟩
theorem mask_grow {H H' : Hp} {L : List Addr} (s : Same H H') : Same (mask H L) (mask H' L) := fun b o h => by
  obtain ⟨e, n⟩ := of_mask h
  exact mask_of (s _ _ e) n
theorem mask_less {H : Hp} {L L' : List Addr} (s : ∀ a ∈ L', a ∈ L) : Same (mask H L) (mask H L') := fun b o h => by
  obtain ⟨e, n⟩ := of_mask h
  exact mask_of e fun q => n (s _ q)
theorem mask_upd {H : Hp} {L : List Addr} {p : Addr} {o : HO} (m : p ∈ L) : Same (mask H L) (mask (upd H p o) L) := fun b u h => by
  obtain ⟨e, n⟩ := of_mask h
  refine mask_of ?_ n
  rw [upd_ne (fun q : b = p => n (by rw [q]; exact m))]
  exact e
theorem same_new {H : Hp} {p : Addr} {o : HO} (h : H p = none) : Same H (upd H p o) := fun b x e => by
  rw [upd_ne (ne_of_none e h)]
  exact e

/-! ### states -/
inductive SV where
  | un | dat (d : PyData) | own (ds : List PyData) | hdl (j : Nat)
/-- an instance's field: a datum, or a list of its own -/
inductive FV where
  | dat (d : PyData) | own (ds : List PyData)
/-- what is reached by reference: the draws, dicts with int or text keys, dicts with tuple keys; an instance, a dict of lists, a dict that is walked, a dict with nested keys, the dict of None alone -/
inductive GO where
  | drw (ns : List Int) (c : Int) | acc (ds : List PyData) | dk (kvs : List (Key × PyData)) | dt (kvs : List (List Key × PyData)) | exn (c : Nat) | tab (q : Str) | tpl (ns : List Int)
  | ins (fs : List (Str × FV)) | dl (kvs : List (List Key × List PyData)) | dz (kvs : List (List Key × PyData)) | dn (kvs : List (NestedKey × PyData)) | d0 (d : PyData)
structure ST where
  sl : List SV
  gs : List GO
inductive RV where
  | dat (d : PyData) | bor (i : Nat) | hdl (j : Nat)
inductive R (α : Type) where
  | stuck | ok (a : α) (st : ST) | exc (c : Nat) (st : ST)
abbrev M (α : Type) := ST → R α
@[simp] def R.bind {α β : Type} (r : R α) (f : α → M β) : R β := match r with
  | .stuck => .stuck
  | .ok a st => f a st
  | .exc c st => .exc c st
@[simp] def M.bind {α β : Type} (m : M α) (f : α → M β) (st : ST) : R β := (m st).bind f
@[simp] def M.pure {α : Type} (a : α) (st : ST) : R α := .ok a st
def M.fail {α : Type} : M α := fun _ => .stuck
def M.opt {α : Type} (o : Option α) : M α := fun st => match o with
  | some a => .ok a st
  | none => .stuck
/-- the datum that a value is, as it stands -/
@[simp] def ST.look (st : ST) : RV → Option PyData
  | .dat d => some d
  | .bor i => match st.sl[i]? with
    | some (.own ds) => some (.list ds)
    | some (.dat d) => some d
    | _ => none
  | .hdl _ => none
/-- a value that is handed on: an own list is given up -/
@[simp] def ST.esc (st : ST) : RV → Option (RV × ST)
  | .dat d => some (.dat d, st)
  | .bor i => match st.sl[i]? with
    | some (.own ds) => some (.dat (.list ds), { st with sl := st.sl.set i (.dat (.list ds)) })
    | some (.dat d) => some (.dat d, st)
    | _ => none
  | .hdl j => some (.hdl j, st)

/-! ### what holds between a state and slots and heap -/
inductive KAll {κ : Type} (F : Hp) : List (κ × V) → List (κ × PyData) → Prop
  | nil : KAll F [] []
  | cons {k : κ} {v : V} {d : PyData} {ws : List (κ × V)} {kvs : List (κ × PyData)} : At F v d → KAll F ws kvs → KAll F ((k, v) :: ws) ((k, d) :: kvs)
theorem KAll.mono {κ : Type} {F F' : Hp} (s : Same F F') : ∀ {ws : List (κ × V)} {kvs : List (κ × PyData)}, KAll F ws kvs → KAll F' ws kvs
  | _, _, .nil => .nil
  | _, _, .cons h r => .cons (h.mono s) (KAll.mono s r)
/-- the fields of an instance; ps: the addresses of its own lists -/
inductive FAll (F H : Hp) : List (Str × V) → List (Str × FV) → List Addr → Prop
  | nil : FAll F H [] [] []
  | dat {f : Str} {v : V} {d : PyData} {ws : List (Str × V)} {fs : List (Str × FV)} {ps : List Addr} : At F v d → FAll F H ws fs ps → FAll F H ((f, v) :: ws) ((f, .dat d) :: fs) ps
  | own {f : Str} {p : Addr} {vs : List V} {ds : List PyData} {ws : List (Str × V)} {fs : List (Str × FV)} {ps : List Addr} : H p = some (.lst vs) → Ats F vs ds → FAll F H ws fs ps → FAll F H ((f, .ref p) :: ws) ((f, .own ds) :: fs) (p :: ps)
theorem FAll.mono {F F' H H' : Hp} (s : Same F F') : ∀ {ws : List (Str × V)} {fs : List (Str × FV)} {ps : List Addr}, (∀ a ∈ ps, ∀ o, H a = some o → H' a = some o) → FAll F H ws fs ps → FAll F' H' ws fs ps
  | _, _, _, _, .nil => .nil
  | _, _, _, t, .dat h r => .dat (h.mono s) (FAll.mono s t r)
  | _, _, _, t, .own h1 h2 r => .own (t _ List.mem_cons_self _ h1) (h2.mono s) (FAll.mono s (fun a ha => t a (List.mem_cons_of_mem _ ha)) r)
/-- a dict's lists; ps: their addresses -/
inductive LAll {κ : Type} (F H : Hp) : List (κ × V) → List (κ × List PyData) → List Addr → Prop
  | nil : LAll F H [] [] []
  | cons {k : κ} {p : Addr} {vs : List V} {ds : List PyData} {ws : List (κ × V)} {kvs : List (κ × List PyData)} {ps : List Addr} : H p = some (.lst vs) → Ats F vs ds → LAll F H ws kvs ps → LAll F H ((k, .ref p) :: ws) ((k, ds) :: kvs) (p :: ps)
theorem LAll.mono {κ : Type} {F F' H H' : Hp} (s : Same F F') : ∀ {ws : List (κ × V)} {kvs : List (κ × List PyData)} {ps : List Addr}, (∀ a ∈ ps, ∀ o, H a = some o → H' a = some o) → LAll F H ws kvs ps → LAll F' H' ws kvs ps
  | _, _, _, _, .nil => .nil
  | _, _, _, t, .cons h1 h2 r => .cons (t _ List.mem_cons_self _ h1) (h2.mono s) (LAll.mono s (fun a ha => t a (List.mem_cons_of_mem _ ha)) r)
/-! the key that a datum is: numbers, None, tuples of such -/
mutual
def keyN : PyData → Option NestedKey
  | .none => some .none
  | .int i => some (.num i)
  | .tuple ds => (keysN ds).bind fun ks => some (.tup ks)
  | _ => none
def keysN : List PyData → Option (List NestedKey)
  | [] => some []
  | d :: r => (keyN d).bind fun k => (keysN r).bind fun ks => some (k :: ks)
end
inductive NAll (F : Hp) : List (NestedKey × Addr × Value) → List (NestedKey × PyData) → Prop
  | nil : NAll F [] []
  | cons {k : NestedKey} {a : Addr} {u : Value} {v : V} {dk d : PyData} {xs : List (NestedKey × Addr × Value)} {kvs : List (NestedKey × PyData)} : keyN dk = some k → k.depth ≤ 8 → At F (.ref a) dk → RelV v u → At F v d → NAll F xs kvs → NAll F ((k, a, u) :: xs) ((k, d) :: kvs)
theorem NAll.mono {F F' : Hp} (s : Same F F') : ∀ {xs : List (NestedKey × Addr × Value)} {kvs : List (NestedKey × PyData)}, NAll F xs kvs → NAll F' xs kvs
  | _, _, .nil => .nil
  | _, _, .cons h1 h0 h2 h3 h4 r => .cons h1 h0 (h2.mono s) h3 (h4.mono s) (NAll.mono s r)
/-- a dict with nested keys, by its one object -/
def dnO (a : Addr) (xs : List (NestedKey × Addr × Value)) : HO := .ext fun h => ∃ w o es ep, h.get? a = some o ∧ o.ExactDict ∧ o.data = .dict es ep ∧ es.toList = xs.map (fun x => (⟨x.1.hash w, .ref x.2.1, x.2.2⟩ : DictEntry)) ∧ (xs.map (·.1)).Nodup ∧ (a == sysModules) = false
/-- the dict {None: u}, by its one object -/
def d0O (a : Addr) (u : Value) : HO := .ext fun h => ∃ w o es ep, h.get? a = some o ∧ o.ExactDict ∧ o.data = .dict es ep ∧ es.toList = [(⟨NestedKey.hash w .none, .none, u⟩ : DictEntry)] ∧ (a == sysModules) = false
/-- an exception that was caught, its class -/
def exnO (a : Addr) (cl : Value) : HO := .ext fun h => ∃ oe, h.get? a = some oe ∧ Zc cl none oe ∧ ∃ vs, oe.data = .fields vs
/-- what is known of addresses outside the state: classes and tables by number; the dicts that are walked, by address -/
structure Cl where
  f : Nat → Value
  fz : Addr → Option HO
instance : CoeFun Cl fun _ => Nat → Value := ⟨Cl.f⟩
def clOf (f : Nat → Value) : Cl := ⟨f, fun _ => none⟩
def GOk (cls : Cl) (F H : Hp) (fp : List Addr) : GO → Prop
  | .exn c => ∃ a, fp = [a] ∧ H a = some (exnO a (cls c))
  | .tpl ns => ∃ (a : Addr) (o : Obj), fp = [a] ∧ H a = some (.frz o (.tup (ns.map V.int))) ∧ o.dict = none
  | .tab q => ∃ (p : Addr) (ps : Array Value), fp = [p] ∧ cls 100 = .ref p ∧ H p = some (.tbl ps) ∧ TriplesOk ps.toList ∧ ∀ (pos : Pos) (cv : Value), codeAmong pos ps.toList = some cv → ∃ c, cv = .ref c ∧ F c = some (LamX.CodeO c q)
  | .drw ns c => ∃ a b, fp = [a, b] ∧ H a = some (.lst [.ref b, .int c]) ∧ H b = some (.lst (ns.map V.int))
  | .acc ds => ∃ a vs, fp = [a] ∧ H a = some (.lst vs) ∧ Ats F vs ds
  | .dk kvs => ∃ a ws, fp = [a] ∧ H a = some (.dK ws) ∧ KAll F ws kvs
  | .dt kvs => ∃ a ws, fp = [a] ∧ H a = some (.dT ws) ∧ KAll F ws kvs
  | .ins fs => ∃ (a dx C : Addr) (ws : List (Str × V)) (ps : List Addr), fp = a :: dx :: ps ∧ cls 101 = .ref C ∧ H a = some (.ins C dx ws) ∧ H dx = some (.own a) ∧ FAll F H ws fs ps
  | .dl kvs => ∃ (a : Addr) (ws : List (List Key × V)) (ps : List Addr), fp = a :: ps ∧ H a = some (.dT ws) ∧ LAll F H ws kvs ps
  | .dz kvs => ∃ (a : Addr) (o : Obj) (ws : List (List Key × V)), fp = [a] ∧ H a = some (.frz o (.dT ws)) ∧ cls.fz a = some (.frz o (.dT ws)) ∧ KAll F ws kvs
  | .dn kvs => ∃ (a : Addr) (xs : List (NestedKey × Addr × Value)), fp = [a] ∧ H a = some (dnO a xs) ∧ NAll F xs kvs
  | .d0 d => ∃ (a : Addr) (u : Value) (v : V), fp = [a] ∧ H a = some (d0O a u) ∧ RelV v u ∧ At F v d
theorem GOk.mono {cls : Cl} {F F' H H' : Hp} {fp : List Addr} {g : GO} (s : Same F F') (t : ∀ a ∈ fp, ∀ o, H a = some o → H' a = some o) (h : GOk cls F H fp g) : GOk cls F' H' fp g := by
  cases g with
  | exn c =>
    obtain ⟨a, rfl, h1⟩ := h
    exact ⟨a, rfl, t _ (by simp) _ h1⟩
  | tpl ns =>
    obtain ⟨a, o, rfl, h1, h2⟩ := h
    exact ⟨a, o, rfl, t _ (by simp) _ h1, h2⟩
  | tab q =>
    obtain ⟨p, ps, rfl, h0, h1, h2, h3⟩ := h
    refine ⟨p, ps, rfl, h0, t _ (by simp) _ h1, h2, fun pos cv e => ?_⟩
    obtain ⟨c, e1, e2⟩ := h3 pos cv e
    exact ⟨c, e1, s _ _ e2⟩
  | drw ns c =>
    obtain ⟨a, b, rfl, h1, h2⟩ := h
    exact ⟨a, b, rfl, t _ (by simp) _ h1, t _ (by simp) _ h2⟩
  | acc ds =>
    obtain ⟨a, ws, rfl, h1, h2⟩ := h
    exact ⟨a, ws, rfl, t _ (by simp) _ h1, h2.mono s⟩
  | dk kvs =>
    obtain ⟨a, ws, rfl, h1, h2⟩ := h
    exact ⟨a, ws, rfl, t _ (by simp) _ h1, h2.mono s⟩
  | dt kvs =>
    obtain ⟨a, ws, rfl, h1, h2⟩ := h
    exact ⟨a, ws, rfl, t _ (by simp) _ h1, h2.mono s⟩
  | ins fs =>
    obtain ⟨a, dx, C, ws, ps, rfl, h0, h1, h2, h3⟩ := h
    exact ⟨a, dx, C, ws, ps, rfl, h0, t _ (by simp) _ h1, t _ (by simp) _ h2, h3.mono s fun b hb => t b (by simp [hb])⟩
  | dl kvs =>
    obtain ⟨a, ws, ps, rfl, h1, h2⟩ := h
    exact ⟨a, ws, ps, rfl, t _ (by simp) _ h1, h2.mono s fun b hb => t b (by simp [hb])⟩
  | dz kvs =>
    obtain ⟨a, o, ws, rfl, h1, h0, h2⟩ := h
    exact ⟨a, o, ws, rfl, t _ (by simp) _ h1, h0, h2.mono s⟩
  | dn kvs =>
    obtain ⟨a, xs, rfl, h1, h2⟩ := h
    exact ⟨a, xs, rfl, t _ (by simp) _ h1, h2.mono s⟩
  | d0 d =>
    obtain ⟨a, u, v, rfl, h1, h2, h3⟩ := h
    exact ⟨a, u, v, rfl, t _ (by simp) _ h1, h2, h3.mono s⟩

/-- the store: as: the addresses of each object of gs -/
structure GRel (cls : Cl) (L : List Addr) (as : List (List Addr)) (gs : List GO) (H : Hp) : Prop where
  glen : as.length = gs.length
  gok : ∀ (j : Nat) (go : GO) (fp : List Addr), gs[j]? = some go → as[j]? = some fp → GOk cls (mask H L) H fp go
  gin : ∀ fp ∈ as, ∀ a ∈ fp, a ∈ L
  gnd : as.flatten.Nodup
theorem GRel.mono {cls : Cl} {L L' : List Addr} {as : List (List Addr)} {gs : List GO} {H H' : Hp} (g : GRel cls L as gs H) (s : Same (mask H L) (mask H' L')) (t : ∀ fp ∈ as, ∀ a ∈ fp, ∀ o, H a = some o → H' a = some o) (l : ∀ fp ∈ as, ∀ a ∈ fp, a ∈ L') : GRel cls L' as gs H' :=
  ⟨g.glen, fun j go fp e f => (g.gok j go fp e f).mono s (t fp (List.mem_of_getElem? f)), l, g.gnd⟩

/-- the entry of a def: footprints, what is kept apart, the heap -/
structure Ent where
  as0 : List (List Addr)
  L0 : List Addr
  H0 : Hp
  cls : Cl

/-- each object keeps its place and its own address; what else it holds may change -/
structure Pre (as as' : List (List Addr)) : Prop where
  len : as.length ≤ as'.length
  own : ∀ (j : Nat) (a : Addr) (fp : List Addr), as[j]? = some (a :: fp) → ∃ fp', as'[j]? = some (a :: fp')
theorem Pre.refl {as : List (List Addr)} : Pre as as := ⟨Nat.le_refl _, fun j a fp h => ⟨fp, h⟩⟩
theorem Pre.trans {as as1 as2 : List (List Addr)} (x : Pre as as1) (y : Pre as1 as2) : Pre as as2 := ⟨Nat.le_trans x.len y.len, fun j a fp h => by
  obtain ⟨fp1, h1⟩ := x.own j a fp h
  exact y.own j a fp1 h1⟩
theorem Pre.app {as more : List (List Addr)} : Pre as (as ++ more) := ⟨by rw [List.length_append]; exact Nat.le_add_right _ _, fun j a fp h => ⟨fp, by rw [List.getElem?_append_left (List.getElem?_eq_some_iff.mp h).1]; exact h⟩⟩
theorem Pre.take {as as' : List (List Addr)} (x : Pre as as') {n : Nat} (hn : as.length ≤ n) : Pre as (as'.take n) := ⟨by rw [List.length_take]; exact Nat.le_min.mpr ⟨hn, x.len⟩, fun j a fp h => by
  obtain ⟨fp', h'⟩ := x.own j a fp h
  exact ⟨fp', by rw [List.getElem?_take_of_lt (Nat.lt_of_lt_of_le (List.getElem?_eq_some_iff.mp h).1 hn)]; exact h'⟩⟩
theorem Pre.set {as : List (List Addr)} {i : Nat} {a : Addr} {fp fp' : List Addr} (h : as[i]? = some (a :: fp)) : Pre as (as.set i (a :: fp')) := ⟨by rw [List.length_set]; exact Nat.le_refl _, fun j b fq hb => by
  by_cases e : i = j
  · subst e
    rw [h] at hb
    cases hb
    exact ⟨fp', List.getElem?_set_self (List.getElem?_eq_some_iff.mp h).1⟩
  · exact ⟨fq, by rw [List.getElem?_set_ne e]; exact hb⟩⟩
structure Rel (N : Ent) (L : List Addr) (as1 : List (List Addr)) (st : ST) (σ : L2.St) (H : Hp) : Prop where
  len : st.sl.length = σ.length
  l0 : ∀ a ∈ N.L0, N.H0 a ≠ none
  sub : ∀ a ∈ N.L0, a ∈ L
  new : ∀ a ∈ L, a ∈ N.L0 ∨ N.H0 a = none
  live : ∀ a ∈ L, H a ≠ none
  frame : ∀ p o, N.H0 p = some o → p ∉ N.as0.flatten → H p = some o
  dat : ∀ (i : Nat) (d : PyData), st.sl[i]? = some (.dat d) → ∃ v, σ[i]? = some (some v) ∧ At (mask H L) v d
  own : ∀ (i : Nat) (ds : List PyData), st.sl[i]? = some (.own ds) → ∃ a vs, σ[i]? = some (some (.ref a)) ∧ H a = some (.lst vs) ∧ Ats (mask H L) vs ds ∧ a ∈ L ∧ N.H0 a = none ∧ a ∉ as1.flatten
  owd : ∀ (i j : Nat) (ds es : List PyData), i ≠ j → st.sl[i]? = some (.own ds) → st.sl[j]? = some (.own es) → σ[i]? ≠ σ[j]?
  hdl : ∀ (i j : Nat), st.sl[i]? = some (.hdl j) → ∃ a fp, as1[j]? = some (a :: fp) ∧ σ[i]? = some (some (.ref a))
  g : GRel N.cls L as1 st.gs H
  gnew : ∀ a ∈ as1.flatten, a ∈ N.as0.flatten ∨ N.H0 a = none
  hd : Pre N.as0 as1
  nt : ∀ a ∈ L, ∀ vs, H a ≠ some (.tup vs)
  ent : ∀ a ∈ N.as0.flatten, a ∈ N.L0

/-- a value as the state's words say it -/
def VRel (L : List Addr) (as : List (List Addr)) (σ : L2.St) (H : Hp) (v : V) : RV → Prop
  | .dat d => At (mask H L) v d
  | .bor i => σ[i]? = some (some v)
  | .hdl j => ∃ a fp, as[j]? = some (a :: fp) ∧ v = .ref a
structure Ext (L : List Addr) (as : List (List Addr)) (H : Hp) (L' : List Addr) (as' : List (List Addr)) (H' : Hp) : Prop where
  dat : Same (mask H L) (mask H' L')
  pre : Pre as as'
theorem Ext.refl {L : List Addr} {as : List (List Addr)} {H : Hp} : Ext L as H L as H := ⟨Same.refl _, .refl⟩
theorem Ext.trans {L L1 L2 : List Addr} {as as1 as2 : List (List Addr)} {H H1 H2 : Hp} (a : Ext L as H L1 as1 H1) (b : Ext L1 as1 H1 L2 as2 H2) : Ext L as H L2 as2 H2 := ⟨a.dat.trans b.dat, a.pre.trans b.pre⟩
theorem VRel.ext {L L' : List Addr} {as as' : List (List Addr)} {σ : L2.St} {H H' : Hp} {v : V} {rv : RV} (h : VRel L as σ H v rv) (e : Ext L as H L' as' H') : VRel L' as' σ H' v rv := by
  cases rv with
  | dat d => exact At.mono e.dat h
  | bor i => exact h
  | hdl j =>
    obtain ⟨a, fp, q, r⟩ := h
    obtain ⟨fp', f⟩ := e.pre.own j a fp q
    exact ⟨a, fp', f, r⟩

section
variable {N : Ent} {L : List Addr} {as1 : List (List Addr)} {st : ST} {σ : L2.St} {H H' : Hp} {i : Nat}
/-- new objects come to the heap -/
theorem Rel.grow (r : Rel N L as1 st σ H) (s : Same H H') : Rel N L as1 st σ H' where
  len := r.len
  l0 := r.l0
  sub := r.sub
  new := r.new
  live := fun a m => by
    cases e : H a with
    | none => exact absurd e (r.live a m)
    | some o => rw [s _ _ e]; exact fun z => nomatch z
  frame := fun p o h n => s _ _ (r.frame p o h n)
  dat := fun i d e => by
    obtain ⟨v, q, h⟩ := r.dat i d e
    exact ⟨v, q, h.mono (mask_grow s)⟩
  own := fun i ds e => by
    obtain ⟨a, vs, q, h, hs, m, n, o⟩ := r.own i ds e
    exact ⟨a, vs, q, s _ _ h, hs.mono (mask_grow s), m, n, o⟩
  owd := r.owd
  hdl := r.hdl
  g := r.g.mono (mask_grow s) (fun _ _ _ _ _ e => s _ _ e) r.g.gin
  gnew := r.gnew
  hd := r.hd
  nt := fun a m vs => by
    cases e : H a with
    | none => exact absurd e (r.live a m)
    | some o =>
      rw [s _ _ e]
      intro z
      cases z
      exact r.nt a m vs e
  ent := r.ent
theorem Ext.grow {as : List (List Addr)} (s : Same H H') : Ext L as H L as H' := ⟨mask_grow s, .refl⟩
theorem set_get {α : Type} {l : List α} {i j : Nat} {x y : α} (h : (l.set i x)[j]? = some y) : (j = i ∧ y = x ∧ i < l.length) ∨ (j ≠ i ∧ l[j]? = some y) := by
  by_cases e : i = j
  · subst e
    by_cases hl : i < l.length
    · rw [List.getElem?_set_self hl] at h
      cases h
      exact .inl ⟨rfl, rfl, hl⟩
    · rw [List.getElem?_eq_none (by rw [List.length_set]; omega)] at h
      cases h
  · rw [List.getElem?_set_ne e] at h
    exact .inr ⟨fun z => e z.symm, h⟩
/-- a slot is forgotten -/
theorem Rel.forget (r : Rel N L as1 st σ H) (i : Nat) : Rel N L as1 { st with sl := st.sl.set i .un } σ H where
  len := by rw [List.length_set]; exact r.len
  l0 := r.l0
  sub := r.sub
  new := r.new
  live := r.live
  frame := r.frame
  dat := fun j d q => by
    rcases set_get q with ⟨_, e, _⟩ | ⟨_, q⟩
    · cases e
    · exact r.dat j d q
  own := fun j d q => by
    rcases set_get q with ⟨_, e, _⟩ | ⟨_, q⟩
    · cases e
    · exact r.own j d q
  owd := fun j k ds es n q1 q2 => by
    rcases set_get q1 with ⟨_, e, _⟩ | ⟨_, q1⟩
    · cases e
    · rcases set_get q2 with ⟨_, e, _⟩ | ⟨_, q2⟩
      · cases e
      · exact r.owd j k ds es n q1 q2
  hdl := fun j k q => by
    rcases set_get q with ⟨_, e, _⟩ | ⟨_, q⟩
    · cases e
    · exact r.hdl j k q
  g := r.g
  gnew := r.gnew
  hd := r.hd
  nt := r.nt
  ent := r.ent
/-- what no word speaks of may change -/
theorem Rel.poke (r : Rel N L as1 { st with sl := st.sl.set i .un } σ H) (ov : Option V) : Rel N L as1 { st with sl := st.sl.set i .un } (σ.set i ov) H where
  len := r.len.trans (List.length_set ..).symm
  l0 := r.l0
  sub := r.sub
  new := r.new
  live := r.live
  frame := r.frame
  dat := fun j d q => by
    rcases set_get q with ⟨_, e, _⟩ | ⟨n, _⟩
    · cases e
    · rw [List.getElem?_set_ne (Ne.symm n)]
      exact r.dat j d q
  own := fun j d q => by
    rcases set_get q with ⟨_, e, _⟩ | ⟨n, _⟩
    · cases e
    · rw [List.getElem?_set_ne (Ne.symm n)]
      exact r.own j d q
  owd := fun j k ds es n q1 q2 => by
    rcases set_get q1 with ⟨_, e, _⟩ | ⟨n1, _⟩
    · cases e
    · rcases set_get q2 with ⟨_, e, _⟩ | ⟨n2, _⟩
      · cases e
      · rw [List.getElem?_set_ne (Ne.symm n1), List.getElem?_set_ne (Ne.symm n2)]
        exact r.owd j k ds es n q1 q2
  hdl := fun j k q => by
    rcases set_get q with ⟨_, e, _⟩ | ⟨n, _⟩
    · cases e
    · rw [List.getElem?_set_ne (Ne.symm n)]
      exact r.hdl j k q
  g := r.g
  gnew := r.gnew
  hd := r.hd
  nt := r.nt
  ent := r.ent
/-- what a slot's word asks -/
def SOk (N : Ent) (L : List Addr) (as1 : List (List Addr)) (st : ST) (σ : L2.St) (H : Hp) (i : Nat) : SV → Prop
  | .un => True
  | .dat d => ∃ v, σ[i]? = some (some v) ∧ At (mask H L) v d
  | .own ds => ∃ a vs, σ[i]? = some (some (.ref a)) ∧ H a = some (.lst vs) ∧ Ats (mask H L) vs ds ∧ a ∈ L ∧ N.H0 a = none ∧ a ∉ as1.flatten ∧ ∀ (j : Nat) (es : List PyData), j ≠ i → st.sl[j]? = some (.own es) → σ[j]? ≠ some (some (.ref a))
  | .hdl j => ∃ a fp, as1[j]? = some (a :: fp) ∧ σ[i]? = some (some (.ref a))
theorem Rel.name (r : Rel N L as1 { st with sl := st.sl.set i .un } σ H) {x : SV} (h : SOk N L as1 st σ H i x) : Rel N L as1 { st with sl := st.sl.set i x } σ H where
  len := by rw [List.length_set, ← r.len, List.length_set]
  l0 := r.l0
  sub := r.sub
  new := r.new
  live := r.live
  frame := r.frame
  dat := fun j d q => by
    rcases set_get q with ⟨e1, e, _⟩ | ⟨n, q⟩
    · subst e1; subst e; exact h
    · exact r.dat j d (by rw [List.getElem?_set_ne (Ne.symm n)]; exact q)
  own := fun j d q => by
    rcases set_get q with ⟨e1, e, _⟩ | ⟨n, q⟩
    · subst e1; subst e
      obtain ⟨a, vs, h1, h2, h3, h4, h5, h6, _⟩ := h
      exact ⟨a, vs, h1, h2, h3, h4, h5, h6⟩
    · exact r.own j d (by rw [List.getElem?_set_ne (Ne.symm n)]; exact q)
  owd := fun j k ds es n q1 q2 => by
    rcases set_get q1 with ⟨e1, e, _⟩ | ⟨n1, p1⟩
    · subst e1; subst e
      obtain ⟨a, vs, h1, _, _, _, _, _, h7⟩ := h
      rcases set_get q2 with ⟨e2, _, _⟩ | ⟨n2, p2⟩
      · exact absurd e2.symm n
      · rw [h1]
        exact Ne.symm (h7 k es n2 p2)
    · rcases set_get q2 with ⟨e2, e, _⟩ | ⟨n2, p2⟩
      · subst e2; subst e
        obtain ⟨a, vs, h1, _, _, _, _, _, h7⟩ := h
        rw [h1]
        exact h7 j ds n1 p1
      · exact r.owd j k ds es n (by rw [List.getElem?_set_ne (Ne.symm n1)]; exact p1) (by rw [List.getElem?_set_ne (Ne.symm n2)]; exact p2)
  hdl := fun j k q => by
    rcases set_get q with ⟨e1, e, _⟩ | ⟨n, q⟩
    · subst e1; subst e; exact h
    · exact r.hdl j k (by rw [List.getElem?_set_ne (Ne.symm n)]; exact q)
  g := r.g
  gnew := r.gnew
  hd := r.hd
  nt := r.nt
  ent := r.ent
/-- a store to a slot: a datum -/
theorem Rel.setDat (r : Rel N L as1 st σ H) {i : Nat} {v : V} {d : PyData} (hi : i < σ.length) (h : At (mask H L) v d) : Rel N L as1 { st with sl := st.sl.set i (.dat d) } (σ.set i (some v)) H :=
  ((r.forget i).poke (some v)).name ⟨v, List.getElem?_set_self hi, h⟩
theorem Rel.setHdl (r : Rel N L as1 st σ H) {i j : Nat} {a : Addr} {fp : List Addr} (hi : i < σ.length) (h : as1[j]? = some (a :: fp)) : Rel N L as1 { st with sl := st.sl.set i (.hdl j) } (σ.set i (some (.ref a))) H :=
  ((r.forget i).poke (some (.ref a))).name ⟨a, fp, h, List.getElem?_set_self hi⟩
theorem Rel.setUn (r : Rel N L as1 st σ H) {i : Nat} (ov : Option V) : Rel N L as1 { st with sl := st.sl.set i .un } (σ.set i ov) H := (r.forget i).poke ov
/-- an address that no word speaks of is freed -/
theorem Rel.drop (r : Rel N L as1 st σ H) {a : Addr} (n0 : N.H0 a = none) (no : ∀ (i : Nat) (ds : List PyData), st.sl[i]? = some (.own ds) → σ[i]? ≠ some (some (.ref a))) (nf : a ∉ as1.flatten) : Rel N (L.filter (· ≠ a)) as1 st σ H where
  len := r.len
  l0 := r.l0
  sub := fun b hb => by
    refine List.mem_filter.mpr ⟨r.sub b hb, ?_⟩
    have : b ≠ a := fun z => r.l0 b hb (by rw [z]; exact n0)
    simpa using this
  new := fun b hb => r.new b (List.mem_filter.mp hb).1
  live := fun b hb => r.live b (List.mem_filter.mp hb).1
  frame := r.frame
  dat := fun i d e => by
    obtain ⟨v, q, h⟩ := r.dat i d e
    exact ⟨v, q, h.mono (mask_less fun b hb => (List.mem_filter.mp hb).1)⟩
  own := fun i ds e => by
    obtain ⟨b, vs, q, h, hs, m, n, o⟩ := r.own i ds e
    refine ⟨b, vs, q, h, hs.mono (mask_less fun b hb => (List.mem_filter.mp hb).1), List.mem_filter.mpr ⟨m, ?_⟩, n, o⟩
    have : b ≠ a := fun z => no i ds e (by rw [q, z])
    simpa using this
  owd := r.owd
  hdl := r.hdl
  g := r.g.mono (mask_less fun b hb => (List.mem_filter.mp hb).1) (fun _ _ _ _ _ e => e) fun fp hfp b hb => by
    refine List.mem_filter.mpr ⟨r.g.gin fp hfp b hb, ?_⟩
    have : b ≠ a := fun z => nf (by rw [← z]; exact List.mem_flatten.mpr ⟨fp, hfp, hb⟩)
    simpa using this
  gnew := r.gnew
  hd := r.hd
  nt := fun b hb => r.nt b (List.mem_filter.mp hb).1
  ent := r.ent
/-- an own list is given up: it is a datum from now on -/
theorem Rel.freeze (r : Rel N L as1 st σ H) {i : Nat} {ds : List PyData} (e : st.sl[i]? = some (.own ds)) :
    ∃ L' v, Rel N L' as1 { st with sl := st.sl.set i (.dat (.list ds)) } σ H ∧ Ext L as1 H L' as1 H ∧ σ[i]? = some (some v) ∧ At (mask H L') v (.list ds) := by
  obtain ⟨a, vs, q, h, hs, m, n, o⟩ := r.own i ds e
  have nn : ∀ (j : Nat) (es : List PyData), (st.sl.set i .un)[j]? = some (.own es) → σ[j]? ≠ some (some (.ref a)) := fun j es q' z => by
    rcases set_get q' with ⟨_, e', _⟩ | ⟨n', q'⟩
    · cases e'
    · exact r.owd j i es ds n' q' e (by rw [z, q])
  have r1 := (r.forget i).drop n nn o
  have na : a ∉ L.filter (· ≠ a) := fun z => by
    have := (List.mem_filter.mp z).2
    simp at this
  have sm : Same (mask H L) (mask H (L.filter (· ≠ a))) := mask_less fun b hb => (List.mem_filter.mp hb).1
  have hat : At (mask H (L.filter (· ≠ a))) (.ref a) (.list ds) := .lst (mask_of h na) (hs.mono sm)
  exact ⟨_, .ref a, r1.name ⟨.ref a, q, hat⟩, ⟨sm, .refl⟩, q, hat⟩
/-- a value that is handed on -/
theorem Rel.esc (r : Rel N L as1 st σ H) {v : V} {rv rv' : RV} {st' : ST} (h : VRel L as1 σ H v rv) (e : st.esc rv = some (rv', st')) :
    ∃ L', Rel N L' as1 st' σ H ∧ Ext L as1 H L' as1 H ∧ VRel L' as1 σ H v rv' ∧ (∀ i, rv' ≠ .bor i) := by
  cases rv with
  | dat d => cases e; exact ⟨L, r, .refl, h, fun i z => nomatch z⟩
  | hdl j => cases e; exact ⟨L, r, .refl, h, fun i z => nomatch z⟩
  | bor i =>
    have hv : σ[i]? = some (some v) := h
    simp only [ST.esc] at e
    cases q : st.sl[i]? with
    | none => rw [q] at e; cases e
    | some x =>
      rw [q] at e
      cases x with
      | un => cases e
      | hdl j => cases e
      | own ds =>
        cases e
        obtain ⟨L', w, r', x, hw, ha⟩ := r.freeze q
        rw [hv] at hw
        cases hw
        exact ⟨L', r', x, ha, fun i z => nomatch z⟩
      | dat d =>
        cases e
        obtain ⟨w, hw, ha⟩ := r.dat i d q
        rw [hv] at hw
        cases hw
        exact ⟨L, r, .refl, ha, fun i z => nomatch z⟩
/-- a value that is read: a datum, or an own list as it stands -/
inductive Rdb (H : Hp) (L : List Addr) : V → PyData → Prop
  | at {v : V} {d : PyData} : At (mask H L) v d → Rdb H L v d
  | own {a : Addr} {vs : List V} {ds : List PyData} : H a = some (.lst vs) → Ats (mask H L) vs ds → Rdb H L (.ref a) (.list ds)
theorem Rel.look (r : Rel N L as1 st σ H) {v : V} {rv : RV} {d : PyData} (h : VRel L as1 σ H v rv) (e : st.look rv = some d) : Rdb H L v d := by
  cases rv with
  | dat d => cases e; exact .at h
  | hdl j => cases e
  | bor i =>
    have hv : σ[i]? = some (some v) := h
    simp only [ST.look] at e
    cases q : st.sl[i]? with
    | none => rw [q] at e; cases e
    | some x =>
      rw [q] at e
      cases x with
      | un => cases e
      | hdl j => cases e
      | own ds =>
        cases e
        obtain ⟨a, vs, q', h', hs, m, n, o⟩ := r.own i ds q
        rw [hv] at q'
        cases q'
        exact .own h' hs
      | dat d =>
        cases e
        obtain ⟨w, hw, ha⟩ := r.dat i _ q
        rw [hv] at hw
        cases hw
        exact .at ha
end
theorem Rdb.int {H : Hp} {L : List Addr} {v : V} {i : Int} (h : Rdb H L v (.int i)) : v = .int i := by
  cases h with
  | «at» h => cases h; rfl
theorem Rdb.bool {H : Hp} {L : List Addr} {v : V} {b : Bool} (h : Rdb H L v (.bool b)) : v = .bl b := by
  cases h with
  | «at» h => cases h; rfl
theorem Rdb.str {H : Hp} {L : List Addr} {v : V} {b : Str} (h : Rdb H L v (.str b)) : v = .str b := by
  cases h with
  | «at» h => cases h; rfl
theorem Rdb.none {H : Hp} {L : List Addr} {v : V} (h : Rdb H L v .none) : v = .non := by
  cases h with
  | «at» h => cases h; rfl
theorem Rdb.list {H : Hp} {L : List Addr} {v : V} {ds : List PyData} (h : Rdb H L v (.list ds)) : ∃ a vs, v = .ref a ∧ H a = some (.lst vs) ∧ Ats (mask H L) vs ds := by
  cases h with
  | «at» h => cases h with
    | lst h hs => exact ⟨_, _, rfl, mask_same _ _ h, hs⟩
  | own h hs => exact ⟨_, _, rfl, h, hs⟩
theorem Rdb.tuple {H : Hp} {L : List Addr} {v : V} {ds : List PyData} (h : Rdb H L v (.tuple ds)) : ∃ a vs, v = .ref a ∧ H a = some (.tup vs) ∧ Ats (mask H L) vs ds := by
  cases h with
  | «at» h => cases h with
    | tup h hs => exact ⟨_, _, rfl, mask_same _ _ h, hs⟩
theorem Rdb.dp {K : PySem.W.Frag} {H : Hp} {L : List Addr} {v : V} {d : PyData} (h : Rdb H L v d) : Dp K H v d := by
  cases h with
  | «at» h => exact (h.mono mask_same).dp
  | own h hs => exact .lst (.inl (.inl h)) (hs.mono mask_same).dp
theorem Rdb.grow {H H' : Hp} {L : List Addr} {v : V} {d : PyData} (s : Same H H') (h : Rdb H L v d) : Rdb H' L v d := by
  cases h with
  | «at» h => exact .at (h.mono (mask_grow s))
  | own h hs => exact .own (s _ _ h) (hs.mono (mask_grow s))
end JL
/-! J2: expressions. -/
namespace JL
open PySem PySem.Spec PyProof.Rows L2

/-! ### what a run of m is to show -/
abbrev Pr (α β : Type) := List Addr → List (List Addr) → L2.St → Hp → β → α → Prop
def Fin {α β : Type} (N : Ent) (W : WX) (P : Pr α β) (L : List Addr) (as1 : List (List Addr)) (σ : L2.St) (H : Hp) (r : R α) (Q : β → Hp → Prop) : Prop := match r with
  | .stuck => False
  | .ok a st' => ∀ L' as1' b H', Rel N L' as1' st' σ H' → P L' as1' σ H' b a → Ext L as1 H L' as1' H' → Q b H'
  | .exc c st' => ∀ L' as1' H', Rel N L' as1' st' σ H' → Ext L as1 H L' as1' H' → W (N.cls c) none σ H'
def sem {α β : Type} (N : Ent) (W : WX) (P : Pr α β) (m : M α) : L2.St → Hp → (β → Hp → Prop) → Prop := fun σ H Q => ∃ L as1 st, Rel N L as1 st σ H ∧ Fin N W P L as1 σ H (m st) Q
abbrev pB : Pr Bool Bool := fun _ _ _ _ b c => b = c
inductive VRels (L : List Addr) (as : List (List Addr)) (σ : L2.St) (H : Hp) : List V → List RV → Prop
  | nil : VRels L as σ H [] []
  | cons {v : V} {vs : List V} {a : RV} {r : List RV} : VRel L as σ H v a → VRels L as σ H vs r → VRels L as σ H (v :: vs) (a :: r)
theorem VRels.ext {L L' : List Addr} {as as' : List (List Addr)} {σ : L2.St} {H H' : Hp} (e : Ext L as H L' as' H') : ∀ {vs : List V} {r : List RV}, VRels L as σ H vs r → VRels L' as' σ H' vs r
  | _, _, .nil => .nil
  | _, _, .cons h t => .cons (h.ext e) (VRels.ext e t)
abbrev semE (N : Ent) (W : WX) (m : M RV) : TE := sem N W VRel m
abbrev semT (N : Ent) (W : WX) (m : M Bool) : TT := sem N W pB m
abbrev semA (N : Ent) (W : WX) (m : M (List RV)) : TA := sem N W VRels m
def JE (X : Cx) (N : Ent) (W : WX) (e : Expr) (m : M RV) : Prop := PE X e (semE N W m)
def JT (X : Cx) (N : Ent) (W : WX) (e : Expr) (m : M Bool) : Prop := PT X e (semT N W m)
def JA (X : Cx) (N : Ent) (W : WX) (es : List Expr) (m : M (List RV)) : Prop := PA X es (semA N W m)
theorem PE.weak {X : Cx} {e : Expr} {t t' : TE} (h : PE X e t) (w : ∀ σ H Q, t' σ H Q → t σ H Q) : PE X e t' := ⟨fun pins s σ H Q I q => h.run pins s σ H Q I (w _ _ _ q)⟩
theorem PT.weak {X : Cx} {e : Expr} {t t' : TT} (h : PT X e t) (w : ∀ σ H Q, t' σ H Q → t σ H Q) : PT X e t' := ⟨fun pins s σ H Q I q => h.run pins s σ H Q I (w _ _ _ q)⟩
theorem PA.weak {X : Cx} {e : List Expr} {t t' : TA} (h : PA X e t) (w : ∀ σ H Q, t' σ H Q → t σ H Q) : PA X e t' := ⟨fun p pins s σ H Q I q => h.run p pins s σ H Q I (w _ _ _ q)⟩
section
variable {N : Ent} {W : WX} {L L1 : List Addr} {as1 as2 : List (List Addr)} {st : ST} {σ : L2.St} {H H1 : Hp}
theorem Fin.from {α β : Type} {P : Pr α β} {r : R α} {Q : β → Hp → Prop} (h : Fin N W P L as1 σ H r Q) (e : Ext L as1 H L1 as2 H1) : Fin N W P L1 as2 σ H1 r Q := by
  cases r with
  | stuck => exact h
  | ok a st' => exact fun L' as1' b H' q1 q2 q3 => h L' as1' b H' q1 q2 (e.trans q3)
  | exc c st' => exact fun L' as1' H' q1 q2 => h L' as1' H' q1 (e.trans q2)
theorem fin_bind {α β γ δ : Type} {P1 : Pr α β} {P2 : Pr γ δ} {m : M α} {f : α → M γ} {Q : δ → Hp → Prop} (r : Rel N L as1 st σ H) (h : Fin N W P2 L as1 σ H ((m.bind f) st) Q) :
    sem N W P1 m σ H fun b H1 => ∃ L1 as2 st1 a, Rel N L1 as2 st1 σ H1 ∧ P1 L1 as2 σ H1 b a ∧ Ext L as1 H L1 as2 H1 ∧ Fin N W P2 L1 as2 σ H1 (f a st1) Q := by
  refine ⟨L, as1, st, r, ?_⟩
  unfold M.bind at h
  cases e : m st with
  | stuck => rw [e] at h; exact h
  | exc c st' => rw [e] at h; exact h
  | ok a st' =>
    rw [e] at h
    intro L' as1' b H' q1 q2 q3
    exact ⟨L', as1', st', a, q1, q2, q3, Fin.from h q3⟩
theorem sem_mono {α β : Type} {P : Pr α β} {m : M α} {Q Q' : β → Hp → Prop} (h : sem N W P m σ H Q) (w : ∀ b H1, Q b H1 → Q' b H1) : sem N W P m σ H Q' := by
  obtain ⟨L, as1, st, r, h⟩ := h
  refine ⟨L, as1, st, r, ?_⟩
  cases e : m st with
  | stuck => rw [e] at h; exact h
  | exc c s1 => rw [e] at h; exact h
  | ok rv s1 =>
    rw [e] at h
    exact fun L' as1' b H' q1 q2 q3 => w _ _ (h L' as1' b H' q1 q2 q3)
/-- the end: a datum -/
theorem fin_dat {d : PyData} {v : V} {Q : VK} (r : Rel N L as1 st σ H) (h : Fin N W VRel L as1 σ H (.ok (.dat d) st) Q) (s : Same H H1) (a : At (mask H1 L) v d) : Q v H1 :=
  h L as1 v H1 (r.grow s) a (Ext.grow s)
theorem fin_bool {b : Bool} {Q : Bool → Hp → Prop} (r : Rel N L as1 st σ H) (h : Fin N W pB L as1 σ H (.ok b st) Q) : Q b H := h L as1 b H r rfl Ext.refl
end

/-! ### pieces of programs -/
@[simp] def mVar (i : Nat) (st : ST) : R RV := match st.sl[i]? with
  | some (.dat d) => .ok (.dat d) st
  | some (.own _) => .ok (.bor i) st
  | some (.hdl j) => .ok (.hdl j) st
  | _ => .stuck
@[simp] def mC (d : PyData) (st : ST) : R RV := .ok (.dat d) st
/-- the result of a plain operation -/
@[simp] def outO (o : Option PyData) (st : ST) : R RV := match o with
  | some d => .ok (.dat d) st
  | none => .stuck
@[simp] def mOp1 (f : PyData → Option PyData) (ma : M RV) (st0 : ST) : R RV := (ma.bind fun a => fun st => outO ((st.look a).bind f) st) st0
@[simp] def mOp2 (f : PyData → PyData → Option PyData) (ma mb : M RV) (st0 : ST) : R RV := (ma.bind fun a => mb.bind fun b => fun st => outO ((st.look a).bind fun d => (st.look b).bind fun e => f d e) st) st0
@[simp] def mTest (ma : M RV) (st0 : ST) : R Bool := (ma.bind fun a => fun st => match st.look a with
  | some (.bool b) => .ok b st
  | _ => .stuck) st0
@[simp] def mAnd (ma mb : M Bool) (st0 : ST) : R Bool := (ma.bind fun a => if a = true then mb else fun st => .ok false st) st0
@[simp] def mOr (ma mb : M Bool) (st0 : ST) : R Bool := (ma.bind fun a => if a = true then (fun st => .ok true st) else mb) st0
@[simp] def mNot (ma : M Bool) (st0 : ST) : R Bool := (ma.bind fun a => fun st => .ok (!a) st) st0
@[simp] def mIf {α : Type} (mc : M Bool) (ma mb : M α) (st0 : ST) : R α := (mc.bind fun c => if c = true then ma else mb) st0
/-- a test as a value -/
@[simp] def mVal (ma : M Bool) (st0 : ST) : R RV := (ma.bind fun a => fun st => .ok (.dat (.bool a)) st) st0
@[simp] def mNil (st : ST) : R (List RV) := .ok [] st
@[simp] def mCons (ma : M RV) (mr : M (List RV)) (st0 : ST) : R (List RV) := (ma.bind fun a => mr.bind fun r => fun st => .ok (a :: r) st) st0
/-- all values handed on -/
@[simp] def escAll : List RV → ST → Option (List RV × ST)
  | [], st => some ([], st)
  | a :: r, st => (st.esc a).bind fun p => (escAll r p.2).bind fun q => some (p.1 :: q.1, q.2)
@[simp] def datAll : List RV → Option (List PyData)
  | [] => some []
  | .dat d :: r => (datAll r).bind fun ds => some (d :: ds)
  | _ :: _ => none
@[simp] def mSeq (f : List PyData → PyData) (mr : M (List RV)) (st0 : ST) : R RV := (mr.bind fun r => fun st => match escAll r st with
  | some (q, st') => (match datAll q with
    | some ds => if ds.length ≤ 1000 then .ok (.dat (f ds)) st' else .stuck
    | none => .stuck)
  | none => .stuck) st0
section
variable {X : Cx} {N : Ent} {W : WX} {e a b c : Expr} {es : List Expr} {ma mb mc : M RV} {mt mu : M Bool} {mr : M (List RV)} {pos : Pos}
theorem je_var (i : Nat) {x : Str} (hN : X.N[i]? = some x := by rfl) (hv : Vis X.env.scope x := by first | exact Or.inl rfl | exact Or.inr (Or.inl rfl) | exact Or.inr (Or.inr rfl)) (hd : (x == ("__debug__" : Str)) = false := by decide)
    (hcd : (x == ("__classdict__" : Str)) = false := by decide) : JE X N W (.Name x pos) (mVar i) := by
  refine PE.weak (pe_var hN hv hd hcd) fun σ H Q ⟨L, as1, st, r, h⟩ => ?_
  unfold mVar at h
  cases q : st.sl[i]? with
  | none => rw [q] at h; exact h.elim
  | some z =>
    rw [q] at h
    cases z with
    | un => exact h.elim
    | dat d =>
      obtain ⟨v, e1, e2⟩ := r.dat i d q
      exact ⟨v, e1, h L as1 v H r e2 .refl⟩
    | own ds =>
      obtain ⟨w, vs, e1, _⟩ := r.own i ds q
      exact ⟨_, e1, h L as1 _ H r e1 .refl⟩
    | hdl j =>
      obtain ⟨w, fp, e1, e2⟩ := r.hdl i j q
      exact ⟨_, e2, h L as1 _ H r ⟨w, fp, e1, rfl⟩ .refl⟩
theorem je_c {v : V} {d : PyData} (h : PE X e (tC v)) (q : ∀ H : Hp, At H v d) : JE X N W e (mC d) :=
  PE.weak h fun σ H Q ⟨L, as1, st, r, h⟩ => h L as1 v H r (q _) .refl
theorem je_int {i : Int} {j : Nat} : JE X N W (.Constant (.int i) j pos) (mC (.int i)) := je_c pe_int fun _ => .int i
theorem je_bl {i : Bool} {j : Nat} : JE X N W (.Constant (.bool i) j pos) (mC (.bool i)) := je_c pe_bl fun _ => .bl i
theorem je_non {j : Nat} : JE X N W (.Constant .none j pos) (mC .none) := je_c pe_non fun _ => .non
theorem je_str {i : String} {j : Nat} : JE X N W (.Constant (.str i) j pos) (mC (.str i)) := je_c pe_str fun _ => .str i
theorem je_globI {x : Str} {i : Int} {u : Value} (hm : X.mg x = some u) (r : RelV (.int i) u) (hg : Gl X x := by rfl) (hd : (x == ("__debug__" : Str)) = false := by decide) : JE X N W (.Name x pos) (mC (.int i)) := je_c (pe_glob hg hm r hd) fun _ => .int i

/-! ### plain operations -/
def Pure1 (r : V → Hp → VK → Prop) (f : PyData → Option PyData) : Prop :=
  ∀ (x : V) (H : Hp) (L : List Addr) (Q : VK) (d g : PyData), (∀ a ∈ L, H a ≠ none) → Rdb H L x d → f d = some g → (∀ v H', Same H H' → At (mask H' L) v g → Q v H') → r x H Q
def Pure2 (r : R2) (f : PyData → PyData → Option PyData) : Prop :=
  ∀ (x y : V) (H : Hp) (L : List Addr) (Q : VK) (d e g : PyData), (∀ a ∈ L, H a ≠ none) → Rdb H L x d → Rdb H L y e → f d e = some g → (∀ v H', Same H H' → At (mask H' L) v g → Q v H') → r x y H Q
theorem fin_op1 {r : V → Hp → VK → Prop} {f : PyData → Option PyData} (p : Pure1 r f) {L : List Addr} {as1 : List (List Addr)} {st : ST} {σ : L2.St} {H : Hp} {Q : VK} {v : V} {rv : RV} (rel : Rel N L as1 st σ H) (hv : VRel L as1 σ H v rv)
    (h : Fin N W VRel L as1 σ H (outO ((st.look rv).bind f) st) Q) : r v H Q := by
  cases e1 : st.look rv with
  | none => rw [e1] at h; exact h.elim
  | some d =>
    rw [e1] at h
    cases e2 : f d with
    | none =>
      have : ((some d).bind f) = none := e2
      rw [this] at h; exact h.elim
    | some g =>
      have : ((some d).bind f) = some g := e2
      rw [this] at h
      exact p v H L Q d g rel.live (rel.look hv e1) e2 fun w H' s a => fin_dat rel h s a
theorem fin_op2 {r : R2} {f : PyData → PyData → Option PyData} (p : Pure2 r f) {L : List Addr} {as1 : List (List Addr)} {st : ST} {σ : L2.St} {H : Hp} {Q : VK} {v w : V} {rv rw' : RV} (rel : Rel N L as1 st σ H) (hv : VRel L as1 σ H v rv) (hw : VRel L as1 σ H w rw')
    (h : Fin N W VRel L as1 σ H (outO ((st.look rv).bind fun d => (st.look rw').bind fun e => f d e) st) Q) : r v w H Q := by
  cases e1 : st.look rv with
  | none => rw [e1] at h; exact h.elim
  | some d =>
    rw [e1] at h
    cases e2 : st.look rw' with
    | none => rw [e2] at h; exact h.elim
    | some d2 =>
      rw [e2] at h
      cases e3 : f d d2 with
      | none =>
        have : ((some d).bind fun d => (some d2).bind fun e => f d e) = none := e3
        rw [this] at h; exact h.elim
      | some g =>
        have : ((some d).bind fun d => (some d2).bind fun e => f d e) = some g := e3
        rw [this] at h
        exact p v w H L Q d d2 g rel.live (rel.look hv e1) (rel.look hw e2) e3 fun z H' s a => fin_dat rel h s a
/-- one, two expressions and a plain operation -/
theorem sem_op1 {r : V → Hp → VK → Prop} {f : PyData → Option PyData} (p : Pure1 r f) {σ : L2.St} {H : Hp} {Q : VK} (h : semE N W (mOp1 f ma) σ H Q) : tUn r (semE N W ma) σ H Q := by
  obtain ⟨L, as1, st, rel, h⟩ := h
  exact sem_mono (fin_bind (P1 := VRel) rel h) fun v H1 ⟨L3, as3, s3, rv3, r3, v3, x3, f3⟩ => fin_op1 p r3 v3 f3
theorem sem_op2 {r : R2} {f : PyData → PyData → Option PyData} (p : Pure2 r f) {σ : L2.St} {H : Hp} {Q : VK} (h : semE N W (mOp2 f ma mb) σ H Q) : tOp r (semE N W ma) (semE N W mb) σ H Q := by
  obtain ⟨L, as1, st, rel, h⟩ := h
  exact sem_mono (fin_bind (P1 := VRel) rel h) fun v H1 ⟨L3, as3, s3, rv3, r3, v3, x3, f3⟩ =>
    sem_mono (fin_bind (P1 := VRel) r3 f3) fun w H2 ⟨L6, as6, s6, rv6, r6, v6, x6, f6⟩ => fin_op2 p r6 (v3.ext x6) v6 f6
theorem je_op2 {op : Operator} {r : R2} {f : PyData → PyData → Option PyData} (ho : OpR X (binaryOp op) r) (p : Pure2 r f) (ha : JE X N W a ma) (hb : JE X N W b mb) : JE X N W (.BinOp a op b pos) (mOp2 f ma mb) :=
  PE.weak (pe_op ho ha hb) fun _ _ _ h => sem_op2 p h
theorem je_un {op : UnaryOp} {r : V → Hp → VK → Prop} {f : PyData → Option PyData} (ho : UnR X (unaryOp op) r) (p : Pure1 r f) (ha : JE X N W a ma) : JE X N W (.UnaryOp op a pos) (mOp1 f ma) :=
  PE.weak (pe_un ho ha) fun _ _ _ h => sem_op1 p h
theorem je_cmp {op : CmpOp} {r : R2} {f : PyData → PyData → Option PyData} (ho : OpR X (compareOp op) r) (p : Pure2 r f) (ha : JE X N W a ma) (hb : JE X N W b mb) (hm : behindInMarks op b = false := by first | exact nobehind _ (by decide) (by decide) | rfl) : JE X N W (.Compare a [op] [b] pos) (mOp2 f ma mb) :=
  PE.weak (pe_cmpR ho ha hb hm) fun _ _ _ h => sem_op2 p h
theorem je_ix {r : R2} {f : PyData → PyData → Option PyData} (ho : IxR X r) (p : Pure2 r f) (ha : JE X N W a ma) (hb : JE X N W b mb) (hs : PlainIx b := by exact fun _ _ => rfl) : JE X N W (.Subscript a b pos) (mOp2 f ma mb) :=
  PE.weak (pe_ix ho ha hb hs) fun _ _ _ h => sem_op2 p h
/-- a value that is a bool, as a test -/
theorem sem_test {σ : L2.St} {H : Hp} {Q : Bool → Hp → Prop} (h : semT N W (mTest ma) σ H Q) : tB (semE N W ma) σ H Q := by
  obtain ⟨L, as1, st, rel, h⟩ := h
  refine sem_mono (fin_bind (P1 := VRel) rel h) fun v H1 ⟨L3, as3, s3, rv3, r3, v3, x3, f3⟩ => ?_
  split at f3
  · rename_i b e
    have q := r3.look v3 e
    exact ⟨b, q.bool, fin_bool r3 f3⟩
  · exact f3.elim
theorem jt_val (ha : JE X N W e ma) (he : ∀ whole, isTrue e X.env whole = (do let v ← whole; standAt e.pos; holding [v] (truthy v)) := by intro _; rfl) : JT X N W e (mTest ma) :=
  PT.weak (pt_val ha he) fun _ _ _ h => sem_test h
theorem jt_cmp {op : CmpOp} {r : R2} {f : PyData → PyData → Option PyData} (ho : OpR X (compareOp op) r) (p : Pure2 r f) (ha : JE X N W a ma) (hb : JE X N W b mb) (hm : behindInMarks op b = false := by first | exact nobehind _ (by decide) (by decide) | rfl) : JT X N W (.Compare a [op] [b] pos) (mTest (mOp2 f ma mb)) := by
  refine PT.weak (pt_cmpR ho ha hb hm) fun σ H Q h => ?_
  have h1 := sem_test h
  exact sem_op2 p h1
/-- and, or, not -/
def JW (X : Cx) (N : Ent) (W : WX) (e : Expr) (m : M Bool) : Prop := PW X e (semT N W m)
theorem PW.weak {t t' : TT} (h : PW X e t) (w : ∀ σ H Q, t' σ H Q → t σ H Q) : PW X e t' := ⟨fun wh pins s σ H Q I q => h.run wh pins s σ H Q I (w _ _ _ q)⟩
theorem JW.jt (h : JW X N W e mt) : JT X N W e mt := PW.pt h
theorem jw_and1 (ha : JT X N W a mt) : JW X N W (.BoolOp .And [a] pos) mt := pw_and1 ha
theorem jw_or1 (ha : JT X N W a mt) : JW X N W (.BoolOp .Or [a] pos) mt := pw_or1 ha
theorem jw_and (ha : JT X N W a mt) (hb : JW X N W (.BoolOp .And (b :: es) pos) mu) : JW X N W (.BoolOp .And (a :: b :: es) pos) (mAnd mt mu) := by
  refine PW.weak (pw_and ha hb) fun σ H Q ⟨L, as1, st, rel, h⟩ => ?_
  refine sem_mono (fin_bind (P1 := pB) rel h) fun c H1 ⟨L3, as3, s3, c3, r3, v3, x3, f3⟩ => ?_
  cases v3
  cases c with
  | true => exact iteT ⟨L3, as3, s3, r3, f3⟩
  | false => exact iteF (fin_bool r3 f3)
theorem jw_or (ha : JT X N W a mt) (hb : JW X N W (.BoolOp .Or (b :: es) pos) mu) : JW X N W (.BoolOp .Or (a :: b :: es) pos) (mOr mt mu) := by
  refine PW.weak (pw_or ha hb) fun σ H Q ⟨L, as1, st, rel, h⟩ => ?_
  refine sem_mono (fin_bind (P1 := pB) rel h) fun c H1 ⟨L3, as3, s3, c3, r3, v3, x3, f3⟩ => ?_
  cases v3
  cases c with
  | true => exact iteT (fin_bool r3 f3)
  | false => exact iteF ⟨L3, as3, s3, r3, f3⟩
theorem jt_not (ha : JT X N W a mt) : JT X N W (.UnaryOp .Not a pos) (mNot mt) := by
  refine PT.weak (pt_not ha) fun σ H Q ⟨L, as1, st, rel, h⟩ => ?_
  refine sem_mono (fin_bind (P1 := pB) rel h) fun c H1 ⟨L3, as3, s3, c3, r3, v3, x3, f3⟩ => ?_
  cases v3
  exact fin_bool r3 f3
theorem je_ifExp (hc : JT X N W c mt) (ha : JE X N W a ma) (hb : JE X N W b mb) : JE X N W (.IfExp c a b pos) (mIf mt ma mb) := by
  refine PE.weak (pe_ifExp hc ha hb) fun σ H Q ⟨L, as1, st, rel, h⟩ => ?_
  refine sem_mono (fin_bind (P1 := pB) rel h) fun c H1 ⟨L3, as3, s3, c3, r3, v3, x3, f3⟩ => ?_
  cases v3
  cases c with
  | true => exact iteT ⟨L3, as3, s3, r3, f3⟩
  | false => exact iteF ⟨L3, as3, s3, r3, f3⟩
/-- .. as values (bools) -/
@[simp] def mAndV (ma mb : M RV) (st0 : ST) : R RV := (M.bind (mTest ma) fun a => if a = true then mb else fun st => .ok (.dat (.bool false)) st) st0
@[simp] def mOrV (ma mb : M RV) (st0 : ST) : R RV := (M.bind (mTest ma) fun a => if a = true then (fun st => .ok (.dat (.bool true)) st) else mb) st0
@[simp] def mNotV (ma : M RV) (st0 : ST) : R RV := (M.bind (mTest ma) fun a => fun st => .ok (.dat (.bool (!a))) st) st0
theorem je_one {op : BoolOp} (h : JE X N W a ma) : JE X N W (.BoolOp op [a] pos) ma := pe_one h
theorem je_and (ha : JE X N W a ma) (hb : JE X N W (.BoolOp .And (b :: es) pos) mb) : JE X N W (.BoolOp .And (a :: b :: es) pos) (mAndV ma mb) := by
  refine PE.weak (pe_and ha hb) fun σ H Q ⟨L, as1, st, rel, h⟩ => ?_
  have h1 : tB (semE N W ma) σ H _ := sem_test (fin_bind (P1 := pB) rel h)
  refine sem_mono h1 fun v H1 ⟨c, hv, L3, as3, s3, c3, r3, v3, x3, f3⟩ => ?_
  cases v3
  refine ⟨c, hv, ?_⟩
  cases c with
  | true => exact iteT ⟨L3, as3, s3, r3, f3⟩
  | false => exact iteF (fin_dat r3 f3 (Same.refl _) (.bl false))
theorem je_or (ha : JE X N W a ma) (hb : JE X N W (.BoolOp .Or (b :: es) pos) mb) : JE X N W (.BoolOp .Or (a :: b :: es) pos) (mOrV ma mb) := by
  refine PE.weak (pe_or ha hb) fun σ H Q ⟨L, as1, st, rel, h⟩ => ?_
  have h1 : tB (semE N W ma) σ H _ := sem_test (fin_bind (P1 := pB) rel h)
  refine sem_mono h1 fun v H1 ⟨c, hv, L3, as3, s3, c3, r3, v3, x3, f3⟩ => ?_
  cases v3
  refine ⟨c, hv, ?_⟩
  cases c with
  | true => exact iteT (fin_dat r3 f3 (Same.refl _) (.bl true))
  | false => exact iteF ⟨L3, as3, s3, r3, f3⟩
theorem je_not (ha : JE X N W a ma) : JE X N W (.UnaryOp .Not a pos) (mNotV ma) := by
  refine PE.weak (pe_not ha) fun σ H Q ⟨L, as1, st, rel, h⟩ => ?_
  have h1 : tB (semE N W ma) σ H _ := sem_test (fin_bind (P1 := pB) rel h)
  refine sem_mono h1 fun v H1 ⟨c, hv, L3, as3, s3, c3, r3, v3, x3, f3⟩ => ?_
  cases v3
  exact ⟨c, hv, fin_dat r3 f3 (Same.refl _) (.bl _)⟩

/-! ### argument lists, displays -/
theorem ja_nil : JA X N W [] mNil := PA.weak pa_nil fun σ H Q ⟨L, as1, st, rel, h⟩ => h L as1 [] H rel .nil .refl
theorem ja_cons (ha : JE X N W e ma) (hr : JA X N W es mr) (hs : starEach (e :: es) X.env = (false, eval e X.env) :: starEach es X.env := by rfl) : JA X N W (e :: es) (mCons ma mr) := by
  refine PA.weak (pa_cons ha hr hs) fun σ H Q ⟨L, as1, st, rel, h⟩ => ?_
  refine sem_mono (fin_bind (P1 := VRel) rel h) fun v H1 ⟨L3, as3, s3, rv3, r3, v3, x3, f3⟩ => ?_
  refine sem_mono (fin_bind (P1 := VRels) r3 f3) fun w H2 ⟨L6, as6, s6, rv6, r6, v6, x6, f6⟩ => ?_
  exact f6 L6 as6 _ H2 r6 (.cons (v3.ext x6) v6) .refl
theorem Rel.escAll {as1 : List (List Addr)} {σ : L2.St} {H : Hp} : ∀ {vs : List V} {rs qs : List RV} {st st' : ST} {L : List Addr}, Rel N L as1 st σ H → VRels L as1 σ H vs rs → JL.escAll rs st = some (qs, st') →
    ∃ L', Rel N L' as1 st' σ H ∧ Ext L as1 H L' as1 H ∧ VRels L' as1 σ H vs qs ∧ ∀ q ∈ qs, ∀ i, q ≠ .bor i
  | _, [], _, st, _, L, r, .nil, e => by
    simp only [JL.escAll] at e
    cases e
    exact ⟨L, r, .refl, .nil, fun q h => absurd h (by simp)⟩
  | _, x :: xs, _, st, _, L, r, .cons h t, e => by
    simp only [JL.escAll] at e
    cases e1 : st.esc x with
    | none => rw [e1] at e; cases e
    | some p =>
      obtain ⟨q, s1⟩ := p
      rw [e1] at e
      simp only [Option.bind_some] at e
      obtain ⟨L1, r1, x1, v1, n1⟩ := r.esc h e1
      cases e2 : JL.escAll xs s1 with
      | none => rw [e2] at e; cases e
      | some p2 =>
        obtain ⟨qs2, s2⟩ := p2
        rw [e2] at e
        simp only [Option.bind_some] at e
        cases e
        obtain ⟨L2', r2, x2, v2, n2⟩ := Rel.escAll r1 (t.ext x1) e2
        refine ⟨L2', r2, x1.trans x2, .cons (v1.ext x2) v2, fun z hz => ?_⟩
        rcases List.mem_cons.mp hz with rfl | hz
        · exact n1
        · exact n2 z hz
theorem VRels.dats {L : List Addr} {as : List (List Addr)} {σ : L2.St} {H : Hp} : ∀ {vs : List V} {rs : List RV} {ds : List PyData}, VRels L as σ H vs rs → datAll rs = some ds → Ats (mask H L) vs ds
  | _, _, _, .nil, e => by simp only [datAll] at e; cases e; exact .nil
  | _, x :: xs, _, .cons h t, e => by
    cases x with
    | bor i => simp only [datAll] at e; cases e
    | hdl j => simp only [datAll] at e; cases e
    | dat d =>
      simp only [datAll] at e
      cases e2 : datAll xs with
      | none => rw [e2] at e; cases e
      | some es =>
        rw [e2] at e
        simp only [Option.bind_some] at e
        cases e
        exact .cons h (VRels.dats t e2)
theorem datAll_length : ∀ {rs : List RV} {ds : List PyData}, datAll rs = some ds → ds.length = rs.length
  | [], _, e => by simp only [datAll] at e; cases e; rfl
  | .dat d :: xs, _, e => by
    simp only [datAll] at e
    cases e2 : datAll xs with
    | none => rw [e2] at e; cases e
    | some es =>
      rw [e2] at e
      simp only [Option.bind_some] at e
      cases e
      rw [List.length_cons, List.length_cons, datAll_length e2]
/-- a tuple, a list, made of data -/
theorem fin_seq {f : List PyData → PyData} {L : List Addr} {as1 : List (List Addr)} {st : ST} {σ : L2.St} {H : Hp} {Q : VK} {vs : List V} {rs : List RV} (rel : Rel N L as1 st σ H) (hv : VRels L as1 σ H vs rs)
    (h : Fin N W VRel L as1 σ H (match JL.escAll rs st with
      | some (q, st') => (match datAll q with
        | some ds => if ds.length ≤ 1000 then .ok (.dat (f ds)) st' else .stuck
        | none => .stuck)
      | none => .stuck) Q) : ∃ L' st' ds, Rel N L' as1 st' σ H ∧ Ats (mask H L') vs ds ∧ vs.length ≤ 1000 ∧ Fin N W VRel L' as1 σ H (.ok (.dat (f ds)) st') Q := by
  cases e : JL.escAll rs st with
  | none => rw [e] at h; exact h.elim
  | some p =>
    obtain ⟨q, st'⟩ := p
    rw [e] at h
    obtain ⟨L', r', x', v', n'⟩ := Rel.escAll rel hv e
    dsimp only at h
    cases e2 : datAll q with
    | none => rw [e2] at h; exact h.elim
    | some ds =>
      rw [e2] at h
      dsimp only at h
      have ha := VRels.dats v' e2
      by_cases hl : ds.length ≤ 1000
      · rw [if_pos hl] at h
        exact ⟨L', st', ds, r', ha, by rw [ha.length]; exact hl, Fin.from h x'⟩
      · rw [if_neg hl] at h
        exact h.elim
theorem fin_alloc {L : List Addr} {as1 : List (List Addr)} {st : ST} {σ : L2.St} {H : Hp} {p : Addr} {d : PyData} {o : HO} {Q : VK} (rel : Rel N L as1 st σ H) (h : Fin N W VRel L as1 σ H (.ok (.dat d) st) Q) (np : H p = none) (ha : ∀ H', H' p = some o → Same (mask H L) H' → At H' (.ref p) d) : Q (.ref p) (upd H p o) := by
  have np' : p ∉ L := fun z => rel.live p z np
  refine fin_dat rel h (same_new np) (ha _ (mask_of upd_same np') (mask_grow (same_new np)))
theorem je_tup {k : Nat} (ha : JA X N W es mr) : JE X N W (.Tuple es k pos) (mSeq .tuple mr) := by
  refine PE.weak (pe_tup ha) fun σ H Q ⟨L, as1, st, rel, h⟩ => ?_
  refine sem_mono (fin_bind (P1 := VRels) rel h) fun vs H1 ⟨L3, as3, s3, rv3, r3, v3, x3, f3⟩ => ?_
  obtain ⟨L4, s4, ds, r4, a4, hl, f4⟩ := fin_seq r3 v3 f3
  exact ⟨Nat.le_of_lt (small1000 hl), fun p np => fin_alloc r4 f4 np fun H' e s => .tup e (a4.mono s)⟩
theorem je_lst (ha : JA X N W es mr) : JE X N W (.List es pos) (mSeq .list mr) := by
  refine PE.weak (pe_lst ha) fun σ H Q ⟨L, as1, st, rel, h⟩ => ?_
  refine sem_mono (fin_bind (P1 := VRels) rel h) fun vs H1 ⟨L3, as3, s3, rv3, r3, v3, x3, f3⟩ => ?_
  obtain ⟨L4, s4, ds, r4, a4, hl, f4⟩ := fin_seq r3 v3 f3
  exact ⟨Nat.le_of_lt (small1000 hl), fun p np => fin_alloc r4 f4 np fun H' e s => .lst e (a4.mono s)⟩

/-! ### built-ins by name, one argument -/
/-- a built-in of plain values -/
def PureC (r : List V → Hp → VK → Prop) (f : List PyData → Option PyData) : Prop :=
  ∀ (xs : List V) (H : Hp) (L : List Addr) (Q : VK) (ds : List PyData) (g : PyData), (∀ a ∈ L, H a ≠ none) → Paired (Rdb H L) xs ds → f ds = some g → (∀ v H', Same H H' → At (mask H' L) v g → Q v H') → r xs H Q
@[simp] def lookAll (st : ST) : List RV → Option (List PyData)
  | [] => some []
  | a :: r => (st.look a).bind fun d => (lookAll st r).bind fun ds => some (d :: ds)
@[simp] def mCall (f : List PyData → Option PyData) (mr : M (List RV)) (st0 : ST) : R RV := (mr.bind fun r => fun st => outO ((lookAll st r).bind f) st) st0
theorem Rel.lookAll {L : List Addr} {as1 : List (List Addr)} {st : ST} {σ : L2.St} {H : Hp} (rel : Rel N L as1 st σ H) : ∀ {vs : List V} {rs : List RV} {ds : List PyData}, VRels L as1 σ H vs rs → JL.lookAll st rs = some ds → Paired (Rdb H L) vs ds
  | _, _, _, .nil, e => by simp only [JL.lookAll] at e; cases e; exact .nil
  | _, x :: xs, _, .cons h t, e => by
    simp only [JL.lookAll] at e
    cases e1 : st.look x with
    | none => rw [e1] at e; cases e
    | some d =>
      rw [e1] at e
      simp only [Option.bind_some] at e
      cases e2 : JL.lookAll st xs with
      | none => rw [e2] at e; cases e
      | some ds =>
        rw [e2] at e
        simp only [Option.bind_some] at e
        cases e
        exact .cons (rel.look h e1) (Rel.lookAll rel t e2)
theorem fin_call {r : List V → Hp → VK → Prop} {f : List PyData → Option PyData} (p : PureC r f) {L : List Addr} {as1 : List (List Addr)} {st : ST} {σ : L2.St} {H : Hp} {Q : VK} {vs : List V} {rs : List RV} (rel : Rel N L as1 st σ H) (hv : VRels L as1 σ H vs rs)
    (h : Fin N W VRel L as1 σ H (outO ((lookAll st rs).bind f) st) Q) : r vs H Q := by
  cases e1 : lookAll st rs with
  | none => rw [e1] at h; exact h.elim
  | some ds =>
    rw [e1] at h
    cases e2 : f ds with
    | none =>
      have : ((some ds).bind f) = none := e2
      rw [this] at h; exact h.elim
    | some g =>
      have : ((some ds).bind f) = some g := e2
      rw [this] at h
      exact p vs H L Q ds g rel.live (Rel.lookAll rel hv e1) e2 fun w H' s a => fin_dat rel h s a
theorem je_callB {id : String} {x : Str} {p : Pos} {r : List V → Hp → VK → Prop} {f : List PyData → Option PyData} (hc : CallR X (.builtin id) r) (hp : PureC r f) (hm : X.mg x = none) (hv : bootBuiltins x = some (.builtin id)) (ha : JA X N W (e :: es) mr)
    (hg : Gl X x := by rfl) (hn : x ≠ "__name__" := by decide) (hdb : (x == ("__debug__" : Str)) = false := by decide) (he : starEach (e :: es) X.env = (false, eval e X.env) :: starEach es X.env := by rfl) (hpl : (backTo pos (starEach es X.env)).any (·.1) = false := by rfl) : JE X N W (.Call (.Name x p) (e :: es) [] pos) (mCall f mr) := by
  refine PE.weak (pe_callB hc hg hm hv ha hn hdb he hpl) fun σ H Q ⟨L, as1, st, rel, h⟩ => ?_
  exact sem_mono (fin_bind (P1 := VRels) rel h) fun vs H1 ⟨L3, as3, s3, rv3, r3, v3, x3, f3⟩ => fin_call hp r3 v3 f3
theorem je_callTy {T : String} {x : Str} {p : Pos} {r : List V → Hp → VK → Prop} {f : List PyData → Option PyData} (hc : CallR X (.type T) r) (hp : PureC r f) (hm : X.mg x = none) (hv : bootBuiltins x = some (.type T)) (ha : JA X N W (e :: es) mr)
    (hg : Gl X x := by rfl) (hn : x ≠ "__name__" := by decide) (hdb : (x == ("__debug__" : Str)) = false := by decide) (he : starEach (e :: es) X.env = (false, eval e X.env) :: starEach es X.env := by rfl) (hpl : (backTo pos (starEach es X.env)).any (·.1) = false := by rfl) : JE X N W (.Call (.Name x p) (e :: es) [] pos) (mCall f mr) := by
  refine PE.weak (pe_callTy hc hg hm hv ha hn hdb he hpl) fun σ H Q ⟨L, as1, st, rel, h⟩ => ?_
  exact sem_mono (fin_bind (P1 := VRels) rel h) fun vs H1 ⟨L3, as3, s3, rv3, r3, v3, x3, f3⟩ => fin_call hp r3 v3 f3
end
end JL
/-! J3: plain operations on data, and that the layer's readings do them. -/
namespace JL
open PySem PySem.Spec PyProof.Rows L2

theorem OpR.or {X : Cx} {f : Value → Value → Sem Value} {r r' : R2} (h : OpR X f r) (h' : OpR X f r') : OpR X f (fun x y H Q => r x y H Q ∨ r' x y H Q) := by
  intro pins s σ H x y v u Q I rx ry q
  rcases q with q | q
  · exact h pins s σ H x y v u Q I rx ry q
  · exact h' pins s σ H x y v u Q I rx ry q
theorem CallR.or {X : Cx} {f : Value} {r r' : List V → Hp → VK → Prop} (h : CallR X f r) (h' : CallR X f r') : CallR X f (fun xs H Q => r xs H Q ∨ r' xs H Q) := by
  intro pins s σ H xs us Q I rx q
  rcases q with q | q
  · exact h pins s σ H xs us Q I rx q
  · exact h' pins s σ H xs us Q I rx q
theorem Pure2.orl {r r' : R2} {f : PyData → PyData → Option PyData} (h : Pure2 r f) : Pure2 (fun x y H Q => r x y H Q ∨ r' x y H Q) f := fun x y H L Q d e g a b c e1 k => .inl (h x y H L Q d e g a b c e1 k)

/-! ### + - * // % ** -/
def maxLen : Nat := 1000000
theorem small_max {n : Nat} (h : n ≤ maxLen) : n ≤ sizeLine := Nat.le_trans h (by decide)
@[simp] def addD : PyData → PyData → Option PyData
  | .int i, .int j => some (.int (i + j))
  | .list xs, .list ys => if xs.length + ys.length ≤ maxLen then some (.list (xs ++ ys)) else none
  | .str x, .str y => if x.length + y.length ≤ maxLen then some (.str (x ++ y)) else none
  | _, _ => none
def rAddA : R2 := fun x y H Q => (rI0 fun i j => .int (i + j)) x y H Q ∨ rCat x y H Q ∨ (∃ i j, x = .str i ∧ y = .str j ∧ i.length + j.length ≤ sizeLine ∧ Q (.str (i ++ j)) H)
theorem op_addA {X : Cx} : OpR X (binaryOp .Add) rAddA := OpR.or op_add (OpR.or op_cat op_add_str)
theorem pure_add : Pure2 rAddA addD := by
  intro x y H L Q d e g live hx hy he k
  unfold addD at he
  split at he
  · cases he
    exact .inl ⟨_, _, hx.int, hy.int, k _ _ (Same.refl _) (.int _)⟩
  · rename_i xs ys
    split at he
    · rename_i hl
      cases he
      obtain ⟨a, vs, rfl, ha, hs⟩ := hx.list
      obtain ⟨b, ws, rfl, hb, ht⟩ := hy.list
      refine .inr (.inl ⟨a, b, vs, ws, rfl, rfl, ha, hb, small_max (by rw [hs.length, ht.length]; exact hl), fun p np => ?_⟩)
      have np' : p ∉ L := fun z => live p z np
      have sm := mask_grow (L := L) (same_new (o := .lst (vs ++ ws)) np)
      exact k _ _ (same_new np) (.lst (mask_of upd_same np') ((hs.append ht).mono sm))
    · cases he
  · split at he
    · rename_i hl
      cases he
      exact .inr (.inr ⟨_, _, hx.str, hy.str, small_max hl, k _ _ (Same.refl _) (.str _)⟩)
    · cases he
  · cases he
@[simp] def subD : PyData → PyData → Option PyData
  | .int i, .int j => some (.int (i - j))
  | _, _ => none
theorem pure_sub : Pure2 (rI0 fun i j => .int (i - j)) subD := by
  intro x y H L Q d e g live hx hy he k
  unfold subD at he
  split at he
  · cases he
    exact ⟨_, _, hx.int, hy.int, k _ _ (Same.refl _) (.int _)⟩
  · cases he
def w64 : Int := 18446744073709551616
def repL {α : Type} (xs : List α) : Nat → List α
  | 0 => []
  | n + 1 => xs ++ repL xs n
def small64 (i : Int) : Bool := Nat.ble i.natAbs 18446744073709551615
theorem small64_iff {i : Int} (h : small64 i = true) : -(2 ^ 64) < i ∧ i < 2 ^ 64 := by
  have := Nat.le_of_ble_eq_true h
  exact ⟨by omega, by omega⟩
theorem small64_of {i : Int} (h0 : -w64 < i) (h1 : i < w64) : small64 i = true := by
  unfold w64 at h0 h1
  exact Nat.ble_eq_true_of_le (by omega)
def wide2 (i j : Int) : Bool := Nat.ble (i.natAbs.log2 + j.natAbs.log2) 999999
theorem wide2_iff {i j : Int} (h : wide2 i j = true) : CMulW i j := by
  have := Nat.le_of_ble_eq_true h
  unfold CMulW
  omega
def mulOk (i j : Int) : Bool := small64 i || small64 j || wide2 i j
theorem mulOk_l {i j : Int} (h0 : -w64 < i) (h1 : i < w64) : mulOk i j = true := by simp [mulOk, small64_of h0 h1]
theorem mulOk_r {i j : Int} (h0 : -w64 < j) (h1 : j < w64) : mulOk i j = true := by simp [mulOk, small64_of h0 h1]
theorem mulOk_w {i j : Int} {a b : Nat} (ha : i.natAbs < 2 ^ a) (hb : j.natAbs < 2 ^ b) (h0 : 0 < a) (h1 : 0 < b) (h : a + b ≤ 1000000) : mulOk i j = true := by
  have h2 : wide2 i j = true := Nat.ble_eq_true_of_le (by have : i.natAbs.log2 + j.natAbs.log2 < 1000000 := wide_mul ha hb h0 h1 h; omega)
  simp [mulOk, h2]
@[simp] def mulD : PyData → PyData → Option PyData
  | .int i, .int j => if mulOk i j = true then some (.int (i * j)) else none
  | _, _ => none
def rMulA : R2 := fun x y H Q => rI CMul (fun i j => .int (i * j)) x y H Q ∨ rI CMulW (fun i j => .int (i * j)) x y H Q
theorem op_mulA {X : Cx} : OpR X (binaryOp .Mult) rMulA := OpR.or op_mul op_mulW
theorem pure_mul : Pure2 rMulA mulD := by
  intro x y H L Q d e g live hx hy he k
  unfold mulD at he
  split at he
  · split at he
    · rename_i hc
      cases he
      unfold mulOk at hc
      simp only [Bool.or_eq_true] at hc
      rcases hc with (hc | hc) | hc
      · exact .inl ⟨_, _, hx.int, hy.int, .inl (small64_iff hc), k _ _ (Same.refl _) (.int _)⟩
      · exact .inl ⟨_, _, hx.int, hy.int, .inr (small64_iff hc), k _ _ (Same.refl _) (.int _)⟩
      · exact .inr ⟨_, _, hx.int, hy.int, wide2_iff hc, k _ _ (Same.refl _) (.int _)⟩
    · cases he
  · cases he
/-- a product in place: one factor below 2 ^ 64 -/
@[simp] def imulD : PyData → PyData → Option PyData
  | .int i, .int j => if (small64 i || small64 j) = true then some (.int (i * j)) else none
  | _, _ => none
theorem pure_imul : Pure2 (rI CMul fun i j => .int (i * j)) imulD := by
  intro x y H L Q d e g live hx hy he k
  unfold imulD at he
  split at he
  · split at he
    · rename_i hc
      cases he
      simp only [Bool.or_eq_true] at hc
      rcases hc with hc | hc
      · exact ⟨_, _, hx.int, hy.int, .inl (small64_iff hc), k _ _ (Same.refl _) (.int _)⟩
      · exact ⟨_, _, hx.int, hy.int, .inr (small64_iff hc), k _ _ (Same.refl _) (.int _)⟩
    · cases he
  · cases he
def divOk (j : Int) : Bool := decide (0 < j) && Nat.ble j.natAbs.log2 8999
theorem divOk_iff {i j : Int} (h : divOk j = true) : CDivW i j := by
  unfold divOk at h
  rw [Bool.and_eq_true] at h
  have := Nat.le_of_ble_eq_true h.2
  exact ⟨of_decide_eq_true h.1, by omega⟩
theorem divOk_of {j : Int} (h : 0 < j) {b : Nat} (hb : j.natAbs < 2 ^ b) (h0 : 0 < b) (h9 : b ≤ 9000) : divOk j = true := by
  have h2 : j.natAbs.log2 < 9000 := (wide_div (i := 0) h hb h0 h9).2
  unfold divOk
  rw [Bool.and_eq_true]
  exact ⟨decide_eq_true h, Nat.ble_eq_true_of_le (by omega)⟩
theorem divOk_small {j : Int} (h : 0 < j) (hb : j < 1073741824) : divOk j = true := divOk_of (b := 30) h (by omega) (by decide) (by decide)
@[simp] def fdivD : PyData → PyData → Option PyData
  | .int i, .int j => if divOk j = true then some (.int (i / j)) else none
  | _, _ => none
theorem pure_fdiv : Pure2 (rI CDivW fun i j => .int (i / j)) fdivD := by
  intro x y H L Q d e g live hx hy he k
  unfold fdivD at he
  split at he
  · split at he
    · rename_i hc
      cases he
      exact ⟨_, _, hx.int, hy.int, divOk_iff hc, k _ _ (Same.refl _) (.int _)⟩
    · cases he
  · cases he
@[simp] def modD : PyData → PyData → Option PyData
  | .int i, .int j => if 0 < j then some (.int (i % j)) else none
  | _, _ => none
theorem pure_mod : Pure2 (rI (fun _ j => 0 < j) fun i j => .int (i % j)) modD := by
  intro x y H L Q d e g live hx hy he k
  unfold modD at he
  split at he
  · split at he
    · rename_i hc
      cases he
      exact ⟨_, _, hx.int, hy.int, hc, k _ _ (Same.refl _) (.int _)⟩
    · cases he
  · cases he
@[simp] def negD : PyData → Option PyData
  | .int i => some (.int (-i))
  | _ => none
theorem pure_neg : Pure1 (rU fun i => .int (-i)) negD := by
  intro x H L Q d g live hx he k
  unfold negD at he
  split at he
  · cases he
    exact ⟨_, hx.int, k _ _ (Same.refl _) (.int _)⟩
  · cases he

/-! ### comparisons -/
@[simp] def eqD (d e : PyData) : Option PyData := if SeqAt.shaped d = true ∧ SeqAt.shaped e = true then some (.bool (PyData.eqv d e)) else none
@[simp] def neD (d e : PyData) : Option PyData := if SeqAt.shaped d = true ∧ SeqAt.shaped e = true then some (.bool (!PyData.eqv d e)) else none
theorem pure_eq {K : PySem.W.Frag} : Pure2 (rEqD K) eqD := by
  intro x y H L Q d e g live hx hy he k
  unfold eqD at he
  split at he
  · rename_i hc
    cases he
    exact ⟨d, e, hx.dp, hy.dp, hc.1, hc.2, k _ _ (Same.refl _) (.bl _)⟩
  · cases he
theorem pure_ne {K : PySem.W.Frag} : Pure2 (rNeD K) neD := by
  intro x y H L Q d e g live hx hy he k
  unfold neD at he
  split at he
  · rename_i hc
    cases he
    exact ⟨d, e, hx.dp, hy.dp, hc.1, hc.2, k _ _ (Same.refl _) (.bl _)⟩
  · cases he
@[simp] def cmpD (p : Int → Int → Bool) : PyData → PyData → Option PyData
  | .int i, .int j => some (.bool (p i j))
  | _, _ => none
theorem pure_cmp (p : Int → Int → Bool) : Pure2 (rI0 fun i j => .bl (p i j)) (cmpD p) := by
  intro x y H L Q d e g live hx hy he k
  unfold cmpD at he
  split at he
  · cases he
    exact ⟨_, _, hx.int, hy.int, k _ _ (Same.refl _) (.bl _)⟩
  · cases he
@[simp] abbrev ltI : Int → Int → Bool := fun i j => decide (i < j)
@[simp] abbrev leI : Int → Int → Bool := fun i j => decide (i ≤ j)
@[simp] abbrev gtI : Int → Int → Bool := fun i j => decide (j < i)
@[simp] abbrev geI : Int → Int → Bool := fun i j => decide (j ≤ i)
/-- in, not in, of a list -/
def inAny (d : PyData) (ds : List PyData) : Bool := ds.any fun z => PyData.eqv z d
@[simp] def inD : PyData → PyData → Option PyData
  | d, .list ds => if SeqAt.shaped d = true ∧ SeqAt.shaped (.list ds) = true then some (.bool (inAny d ds)) else none
  | _, _ => none
@[simp] def notInD : PyData → PyData → Option PyData
  | d, .list ds => if SeqAt.shaped d = true ∧ SeqAt.shaped (.list ds) = true then some (.bool (!inAny d ds)) else none
  | _, _ => none
theorem pure_in {K : PySem.W.Frag} : Pure2 (rInD K) inD := by
  intro x y H L Q d e g live hx hy he k
  unfold inD at he
  split at he
  · split at he
    · rename_i hc
      cases he
      exact ⟨d, _, hx.dp, hy.dp, hc.1, hc.2, k _ _ (Same.refl _) (.bl _)⟩
    · cases he
  · cases he
theorem pure_notIn {K : PySem.W.Frag} : Pure2 (rNotInD K) notInD := by
  intro x y H L Q d e g live hx hy he k
  unfold notInD at he
  split at he
  · split at he
    · rename_i hc
      cases he
      exact ⟨d, _, hx.dp, hy.dp, hc.1, hc.2, k _ _ (Same.refl _) (.bl _)⟩
    · cases he
  · cases he
/-- is None, is not None -/
def isNone : PyData → Bool
  | .none => true
  | _ => false
@[simp] theorem isNone_none : isNone .none = true := rfl
@[simp] theorem isNone_bool (b : Bool) : isNone (.bool b) = false := rfl
@[simp] theorem isNone_int (b : Int) : isNone (.int b) = false := rfl
@[simp] theorem isNone_str (b : Str) : isNone (.str b) = false := rfl
@[simp] theorem isNone_list (b : List PyData) : isNone (.list b) = false := rfl
@[simp] theorem isNone_tuple (b : List PyData) : isNone (.tuple b) = false := rfl
@[simp] def isND : PyData → PyData → Option PyData
  | d, .none => some (.bool (isNone d))
  | _, _ => none
@[simp] def notND : PyData → PyData → Option PyData
  | d, .none => some (.bool (!isNone d))
  | _, _ => none
theorem isNone_of {H : Hp} {L : List Addr} {x : V} {d : PyData} (h : Rdb H L x d) : decide (x = .non) = isNone d := by
  cases h with
  | «at» h => cases h <;> rfl
  | own _ _ => rfl
theorem pure_isN : Pure2 (fun x y H Q => y = .non ∧ Q (.bl (decide (x = .non))) H) isND := by
  intro x y H L Q d e g live hx hy he k
  unfold isND at he
  split at he
  · cases he
    exact ⟨hy.none, by rw [isNone_of hx]; exact k _ _ (Same.refl _) (.bl _)⟩
  · cases he
theorem pure_notN : Pure2 (fun x y H Q => y = .non ∧ Q (.bl (!decide (x = .non))) H) notND := by
  intro x y H L Q d e g live hx hy he k
  unfold notND at he
  split at he
  · cases he
    exact ⟨hy.none, by rw [isNone_of hx]; exact k _ _ (Same.refl _) (.bl _)⟩
  · cases he

/-! ### items -/
@[simp] def ixD : PyData → PyData → Option PyData
  | .list xs, .int i => atI xs i
  | .tuple xs, .int i => atI xs i
  | _, _ => none
theorem Ats.atI {H : Hp} {vs : List V} {ds : List PyData} (h : Ats H vs ds) {i : Int} {d : PyData} (e : L2.atI ds i = some d) : ∃ v, L2.atI vs i = some v ∧ At H v d := by
  unfold L2.atI at e ⊢
  rw [h.length]
  cases q : ixN ds.length i with
  | none => rw [q] at e; cases e
  | some j =>
    rw [q] at e
    exact h.get e
theorem pure_ix {K : PySem.W.Frag} : Pure2 (rIx K) ixD := by
  intro x y H L Q d e g live hx hy he k
  unfold ixD at he
  split at he
  · obtain ⟨a, vs, rfl, ha, hs⟩ := hx.list
    obtain ⟨v, q, hv⟩ := hs.atI he
    exact .inl ⟨a, vs, _, v, rfl, hy.int, SqL.of ha, q, k _ _ (Same.refl _) hv⟩
  · obtain ⟨a, vs, rfl, ha, hs⟩ := hx.tuple
    obtain ⟨v, q, hv⟩ := hs.atI he
    exact .inr (.inl ⟨a, vs, _, v, rfl, hy.int, SqT.of ha, q, k _ _ (Same.refl _) hv⟩)
  · cases he

/-! ### built-in functions -/
theorem Paired.one {α β : Type} {F : α → β → Prop} {xs : List α} {b : β} (h : Paired F xs [b]) : ∃ a, xs = [a] ∧ F a b := by
  cases h with
  | cons h t => cases t; exact ⟨_, rfl, h⟩
theorem Paired.two {α β : Type} {F : α → β → Prop} {xs : List α} {b c : β} (h : Paired F xs [b, c]) : ∃ a d, xs = [a, d] ∧ F a b ∧ F d c := by
  cases h with
  | cons h t => cases t with
    | cons h2 t => cases t; exact ⟨_, _, rfl, h, h2⟩
@[simp] def lenD : List PyData → Option PyData
  | [.list xs] => some (.int xs.length)
  | [.tuple xs] => some (.int xs.length)
  | [.str x] => if x.length ≤ maxLen then some (.int x.length) else none
  | _ => none
def rLenA (K : PySem.W.Frag) : List V → Hp → VK → Prop := fun xs H Q => (∃ p ys, xs = [.ref p] ∧ (SqL K H p ys ∨ SqT K H p ys) ∧ Q (.int ys.length) H) ∨ (∃ z, xs = [.str z] ∧ z.length ≤ sizeLine ∧ Q (.int z.length) H)
theorem call_lenA {X : Cx} : CallR X (.builtin "len") (rLenA X.K) := CallR.or call_len_seq call_len_str
theorem pure_len {K : PySem.W.Frag} : PureC (rLenA K) lenD := by
  intro xs H L Q ds g live h he k
  unfold lenD at he
  split at he
  · cases he
    obtain ⟨v, rfl, hv⟩ := Paired.one h
    obtain ⟨a, vs, rfl, ha, hs⟩ := hv.list
    exact .inl ⟨a, vs, rfl, .inl (SqL.of ha), by rw [hs.length]; exact k _ _ (Same.refl _) (.int _)⟩
  · cases he
    obtain ⟨v, rfl, hv⟩ := Paired.one h
    obtain ⟨a, vs, rfl, ha, hs⟩ := hv.tuple
    exact .inl ⟨a, vs, rfl, .inr (SqT.of ha), by rw [hs.length]; exact k _ _ (Same.refl _) (.int _)⟩
  · split at he
    · rename_i hl
      cases he
      obtain ⟨v, rfl, hv⟩ := Paired.one h
      cases hv.str
      exact .inr ⟨_, rfl, small_max hl, k _ _ (Same.refl _) (.int _)⟩
    · cases he
  · cases he
/-- list(xs), list(t), tuple(xs) -/
@[simp] def listD : List PyData → Option PyData
  | [.list xs] => some (.list xs)
  | [.tuple xs] => some (.list xs)
  | _ => none
theorem at_new {H : Hp} {L : List Addr} {p : Addr} {vs : List V} {ds : List PyData} (live : ∀ a ∈ L, H a ≠ none) (np : H p = none) (hs : Ats (mask H L) vs ds) : At (mask (upd H p (.lst vs)) L) (.ref p) (.list ds) :=
  .lst (mask_of upd_same fun z => live p z np) (hs.mono (mask_grow (same_new np)))
theorem at_newT {H : Hp} {L : List Addr} {p : Addr} {vs : List V} {ds : List PyData} (live : ∀ a ∈ L, H a ≠ none) (np : H p = none) (hs : Ats (mask H L) vs ds) : At (mask (upd H p (.tup vs)) L) (.ref p) (.tuple ds) :=
  .tup (mask_of upd_same fun z => live p z np) (hs.mono (mask_grow (same_new np)))
theorem pure_list {K : PySem.W.Frag} : PureC (fun xs H Q => ∃ p ys, xs = [.ref p] ∧ (SqL K H p ys ∨ SqT K H p ys) ∧ ∀ l, H l = none → Q (.ref l) (upd H l (.lst ys))) listD := by
  intro xs H L Q ds g live h he k
  unfold listD at he
  split at he
  · cases he
    obtain ⟨v, rfl, hv⟩ := Paired.one h
    obtain ⟨a, vs, rfl, ha, hs⟩ := hv.list
    exact ⟨a, vs, rfl, .inl (SqL.of ha), fun l nl => k _ _ (same_new nl) (at_new live nl hs)⟩
  · cases he
    obtain ⟨v, rfl, hv⟩ := Paired.one h
    obtain ⟨a, vs, rfl, ha, hs⟩ := hv.tuple
    exact ⟨a, vs, rfl, .inr (SqT.of ha), fun l nl => k _ _ (same_new nl) (at_new live nl hs)⟩
  · cases he
@[simp] def tupleD : List PyData → Option PyData
  | [.list xs] => some (.tuple xs)
  | _ => none
theorem pure_tuple {K : PySem.W.Frag} : PureC (fun xs H Q => ∃ p ys, xs = [.ref p] ∧ ((SqL K H p ys ∧ ∀ l, H l = none → Q (.ref l) (upd H l (.tup ys))) ∨ (SqT K H p ys ∧ Q (.ref p) H))) tupleD := by
  intro xs H L Q ds g live h he k
  unfold tupleD at he
  split at he
  · cases he
    obtain ⟨v, rfl, hv⟩ := Paired.one h
    obtain ⟨a, vs, rfl, ha, hs⟩ := hv.list
    exact ⟨a, vs, rfl, .inl ⟨SqL.of ha, fun l nl => k _ _ (same_new nl) (at_newT live nl hs)⟩⟩
  · cases he
/-- the ints of data -/
def intsOf : List PyData → Option (List Int)
  | [] => some []
  | .int i :: r => (intsOf r).bind fun ns => some (i :: ns)
  | _ :: _ => none
theorem intsOf_eq : ∀ {ds : List PyData} {ns : List Int}, intsOf ds = some ns → ds = ns.map .int
  | [], _, e => by simp only [intsOf] at e; cases e; rfl
  | .int i :: r, _, e => by
    simp only [intsOf] at e
    cases q : intsOf r with
    | none => rw [q] at e; cases e
    | some ns =>
      rw [q] at e
      simp only [Option.bind_some] at e
      cases e
      rw [intsOf_eq q]
      rfl
  | .none :: _, _, e => by simp only [intsOf] at e; cases e
  | .bool _ :: _, _, e => by simp only [intsOf] at e; cases e
  | .str _ :: _, _, e => by simp only [intsOf] at e; cases e
  | .list _ :: _, _, e => by simp only [intsOf] at e; cases e
  | .tuple _ :: _, _, e => by simp only [intsOf] at e; cases e
  | .dict _ :: _, _, e => by simp only [intsOf] at e; cases e
@[simp] theorem intsOf_map : ∀ ns : List Int, intsOf (ns.map .int) = some ns
  | [] => rfl
  | n :: r => by simp only [List.map_cons, intsOf, intsOf_map r, Option.bind_some]
def boolsOf : List PyData → Option (List Bool)
  | [] => some []
  | .bool i :: r => (boolsOf r).bind fun ns => some (i :: ns)
  | _ :: _ => none
theorem boolsOf_eq : ∀ {ds : List PyData} {ns : List Bool}, boolsOf ds = some ns → ds = ns.map .bool
  | [], _, e => by simp only [boolsOf] at e; cases e; rfl
  | .bool i :: r, _, e => by
    simp only [boolsOf] at e
    cases q : boolsOf r with
    | none => rw [q] at e; cases e
    | some ns =>
      rw [q] at e
      simp only [Option.bind_some] at e
      cases e
      rw [boolsOf_eq q]
      rfl
  | .none :: _, _, e => by simp only [boolsOf] at e; cases e
  | .int _ :: _, _, e => by simp only [boolsOf] at e; cases e
  | .str _ :: _, _, e => by simp only [boolsOf] at e; cases e
  | .list _ :: _, _, e => by simp only [boolsOf] at e; cases e
  | .tuple _ :: _, _, e => by simp only [boolsOf] at e; cases e
  | .dict _ :: _, _, e => by simp only [boolsOf] at e; cases e
@[simp] theorem boolsOf_map : ∀ ns : List Bool, boolsOf (ns.map .bool) = some ns
  | [] => rfl
  | n :: r => by simp only [List.map_cons, boolsOf, boolsOf_map r, Option.bind_some]
/-- insertion sort of ints: the sorted list -/
def insI (x : Int) : List Int → List Int
  | [] => [x]
  | y :: r => if x ≤ y then x :: y :: r else y :: insI x r
def sortI : List Int → List Int
  | [] => []
  | x :: r => insI x (sortI r)
theorem insI_perm (x : Int) : ∀ l : List Int, (insI x l).Perm (x :: l)
  | [] => .refl _
  | y :: r => by
    unfold insI
    split
    · exact .refl _
    · exact ((insI_perm x r).cons y).trans (.swap x y r)
theorem sortI_perm : ∀ l : List Int, (sortI l).Perm l
  | [] => .refl _
  | x :: r => (insI_perm x _).trans ((sortI_perm r).cons x)
theorem insI_sorted (x : Int) : ∀ l : List Int, l.Pairwise (· ≤ ·) → (insI x l).Pairwise (· ≤ ·)
  | [], _ => by simp [insI]
  | y :: r, h => by
    obtain ⟨h1, h2⟩ := List.pairwise_cons.mp h
    unfold insI
    split
    · rename_i hxy
      refine List.pairwise_cons.mpr ⟨fun z hz => ?_, h⟩
      rcases List.mem_cons.mp hz with rfl | hz
      · exact hxy
      · exact Int.le_trans hxy (h1 z hz)
    · rename_i hxy
      refine List.pairwise_cons.mpr ⟨fun z hz => ?_, insI_sorted x r h2⟩
      rcases List.mem_cons.mp ((insI_perm x r).mem_iff.mp hz) with rfl | hz
      · omega
      · exact h1 z hz
theorem sortI_sorted : ∀ l : List Int, (sortI l).Pairwise (· ≤ ·)
  | [] => .nil
  | x :: r => insI_sorted x _ (sortI_sorted r)
theorem sorted_unique : ∀ {l m : List Int}, l.Perm m → l.Pairwise (· ≤ ·) → m.Pairwise (· ≤ ·) → l = m := fun p a b =>
  p.eq_of_pairwise (fun x y _ _ h1 h2 => Int.le_antisymm h1 h2) a b
@[simp] def sortD : List PyData → Option PyData
  | [.list xs] => (intsOf xs).bind fun ns => if ns.length < 64 then some (.list ((sortI ns).map .int)) else none
  | _ => none
theorem pure_sorted {K : PySem.W.Frag} : PureC (rSorted K) sortD := by
  intro xs H L Q ds g live h he k
  unfold sortD at he
  split at he
  · rename_i zs
    cases e1 : intsOf zs with
    | none => rw [e1] at he; cases he
    | some ns =>
      rw [e1] at he
      simp only [Option.bind_some] at he
      split at he
      · rename_i hl
        cases he
        obtain ⟨v, rfl, hv⟩ := Paired.one h
        obtain ⟨a, vs, rfl, ha, hs⟩ := hv.list
        rw [intsOf_eq e1] at hs
        rw [hs.ints] at ha
        refine ⟨a, ns, rfl, SqL.of ha, hl, fun ns' p h1 h2 np => ?_⟩
        have e : ns' = sortI ns := sorted_unique (h1.trans (sortI_perm ns).symm) h2 (sortI_sorted ns)
        rw [e]
        exact k _ _ (same_new np) (at_new live np (ats_ints _))
      · cases he
  · cases he
@[simp] def sumD : List PyData → Option PyData
  | [.list xs] => (intsOf xs).bind fun ns => some (.int ns.sum)
  | _ => none
theorem pure_sum {K : PySem.W.Frag} : PureC (rSum K) sumD := by
  intro xs H L Q ds g live h he k
  unfold sumD at he
  split at he
  · rename_i zs
    cases e1 : intsOf zs with
    | none => rw [e1] at he; cases he
    | some ns =>
      rw [e1] at he
      simp only [Option.bind_some] at he
      cases he
      obtain ⟨v, rfl, hv⟩ := Paired.one h
      obtain ⟨a, vs, rfl, ha, hs⟩ := hv.list
      rw [intsOf_eq e1] at hs
      rw [hs.ints] at ha
      exact ⟨a, ns, rfl, SqL.of ha, k _ _ (Same.refl _) (.int _)⟩
  · cases he
def maxL : List Int → Int
  | [] => 0
  | [x] => x
  | x :: y :: r => if maxL (y :: r) ≤ x then x else maxL (y :: r)
def minL : List Int → Int
  | [] => 0
  | [x] => x
  | x :: y :: r => if x ≤ minL (y :: r) then x else minL (y :: r)
theorem maxL_mem : ∀ (x : Int) (r : List Int), maxL (x :: r) ∈ x :: r
  | x, [] => by simp [maxL]
  | x, y :: r => by
    have ih := maxL_mem y r
    show (if maxL (y :: r) ≤ x then x else maxL (y :: r)) ∈ _
    split
    · simp
    · exact List.mem_cons_of_mem _ ih
theorem maxL_le : ∀ (x : Int) (r : List Int), ∀ z ∈ x :: r, z ≤ maxL (x :: r)
  | x, [], z, h => by simp at h; simp [maxL, h]
  | x, y :: r, z, h => by
    have ih := maxL_le y r
    show z ≤ (if maxL (y :: r) ≤ x then x else maxL (y :: r))
    rcases List.mem_cons.mp h with rfl | h
    · split <;> omega
    · have := ih z h
      split <;> omega
theorem minL_mem : ∀ (x : Int) (r : List Int), minL (x :: r) ∈ x :: r
  | x, [] => by simp [minL]
  | x, y :: r => by
    have ih := minL_mem y r
    show (if x ≤ minL (y :: r) then x else minL (y :: r)) ∈ _
    split
    · simp
    · exact List.mem_cons_of_mem _ ih
theorem minL_le : ∀ (x : Int) (r : List Int), ∀ z ∈ x :: r, minL (x :: r) ≤ z
  | x, [], z, h => by simp at h; simp [minL, h]
  | x, y :: r, z, h => by
    have ih := minL_le y r
    show (if x ≤ minL (y :: r) then x else minL (y :: r)) ≤ z
    rcases List.mem_cons.mp h with rfl | h
    · split <;> omega
    · have := ih z h
      split <;> omega
@[simp] def maxD : List PyData → Option PyData
  | [.list xs] => (intsOf xs).bind fun ns => if ns.length = 0 then none else some (.int (maxL ns))
  | _ => none
@[simp] def minD : List PyData → Option PyData
  | [.list xs] => (intsOf xs).bind fun ns => if ns.length = 0 then none else some (.int (minL ns))
  | _ => none
theorem pure_max {K : PySem.W.Frag} : PureC (rMax K) maxD := by
  intro xs H L Q ds g live h he k
  unfold maxD at he
  split at he
  · rename_i zs
    cases e1 : intsOf zs with
    | none => rw [e1] at he; cases he
    | some ns =>
      rw [e1] at he
      simp only [Option.bind_some] at he
      split at he
      · cases he
      · rename_i hl
        cases he
        obtain ⟨v, rfl, hv⟩ := Paired.one h
        obtain ⟨a, vs, rfl, ha, hs⟩ := hv.list
        rw [intsOf_eq e1] at hs
        rw [hs.ints] at ha
        refine ⟨a, ns, rfl, SqL.of ha, by omega, fun m h1 h2 => ?_⟩
        cases ns with
        | nil => exact absurd rfl hl
        | cons x r =>
          have e : m = maxL (x :: r) := Int.le_antisymm (maxL_le x r m h1) (h2 _ (maxL_mem x r))
          rw [e]
          exact k _ _ (Same.refl _) (.int _)
  · cases he
theorem pure_min {K : PySem.W.Frag} : PureC (rMin K) minD := by
  intro xs H L Q ds g live h he k
  unfold minD at he
  split at he
  · rename_i zs
    cases e1 : intsOf zs with
    | none => rw [e1] at he; cases he
    | some ns =>
      rw [e1] at he
      simp only [Option.bind_some] at he
      split at he
      · cases he
      · rename_i hl
        cases he
        obtain ⟨v, rfl, hv⟩ := Paired.one h
        obtain ⟨a, vs, rfl, ha, hs⟩ := hv.list
        rw [intsOf_eq e1] at hs
        rw [hs.ints] at ha
        refine ⟨a, ns, rfl, SqL.of ha, by omega, fun m h1 h2 => ?_⟩
        cases ns with
        | nil => exact absurd rfl hl
        | cons x r =>
          have e : m = minL (x :: r) := Int.le_antisymm (h2 _ (minL_mem x r)) (minL_le x r m h1)
          rw [e]
          exact k _ _ (Same.refl _) (.int _)
  · cases he
def anyB (bs : List Bool) : Bool := bs.any id
def allB (bs : List Bool) : Bool := bs.all id
@[simp] def allD : List PyData → Option PyData
  | [.list xs] => (boolsOf xs).bind fun ns => some (.bool (allB ns))
  | _ => none
@[simp] def anyD : List PyData → Option PyData
  | [.list xs] => (boolsOf xs).bind fun ns => some (.bool (anyB ns))
  | _ => none
theorem pure_all {K : PySem.W.Frag} : PureC (rAll K) allD := by
  intro xs H L Q ds g live h he k
  unfold allD at he
  split at he
  · rename_i zs
    cases e1 : boolsOf zs with
    | none => rw [e1] at he; cases he
    | some ns =>
      rw [e1] at he
      simp only [Option.bind_some] at he
      cases he
      obtain ⟨v, rfl, hv⟩ := Paired.one h
      obtain ⟨a, vs, rfl, ha, hs⟩ := hv.list
      rw [boolsOf_eq e1] at hs
      rw [hs.bools] at ha
      exact ⟨a, ns, rfl, SqL.of ha, k _ _ (Same.refl _) (.bl _)⟩
  · cases he
theorem pure_any {K : PySem.W.Frag} : PureC (rAny K) anyD := by
  intro xs H L Q ds g live h he k
  unfold anyD at he
  split at he
  · rename_i zs
    cases e1 : boolsOf zs with
    | none => rw [e1] at he; cases he
    | some ns =>
      rw [e1] at he
      simp only [Option.bind_some] at he
      cases he
      obtain ⟨v, rfl, hv⟩ := Paired.one h
      obtain ⟨a, vs, rfl, ha, hs⟩ := hv.list
      rw [boolsOf_eq e1] at hs
      rw [hs.bools] at ha
      exact ⟨a, ns, rfl, SqL.of ha, k _ _ (Same.refl _) (.bl _)⟩
  · cases he
end JL
/-! J4: defs, calls, statements, loops. -/
namespace JL
open PySem PySem.Spec PyProof.Rows L2

/-! ### defs -/
inductive FR where
  | stuck | ok (r : RV) (gs : List GO) | exc (c : Nat) (gs : List GO)
abbrev FS := List RV → List GO → FR
structure Stp (as0 : List (List Addr)) (L : List Addr) (H : Hp) (as' : List (List Addr)) (L' : List Addr) (H' : Hp) : Prop where
  sub : ∀ a ∈ L, a ∈ L'
  new : ∀ a ∈ L', a ∈ L ∨ H a = none
  live : ∀ a ∈ L', H' a ≠ none
  frame : ∀ p o, H p = some o → p ∉ as0.flatten → H' p = some o
  anew : ∀ a ∈ as'.flatten, a ∈ as0.flatten ∨ H a = none
  hd : Pre as0 as'
  nt : ∀ a ∈ L', ∀ vs, H' a ≠ some (.tup vs)
def spF (cls : Cl) (n : Nat) (F : FS) : Sp := fun vs H Q E => vs.length = n ∧ ∃ as0 L0 args gs, ((∀ a ∈ L0, H a ≠ none) ∧ ∀ a ∈ L0, ∀ ws, H a ≠ some (.tup ws)) ∧ VRels L0 as0 [] H vs args ∧ GRel cls L0 as0 gs H ∧
  match F args gs with
  | .stuck => False
  | .ok r gs' => ∀ v H' L' as', Stp as0 L0 H as' L' H' → GRel cls L' as' gs' H' → VRel L' as' [] H' v r → Q v H'
  | .exc c gs' => ∀ H' L' as', Stp as0 L0 H as' L' H' → GRel cls L' as' gs' H' → E (cls c) none H'
/-- what comes of a call, in the caller's state -/
@[simp] def FR.inn (st : ST) : FR → R RV
  | .stuck => .stuck
  | .ok r gs' => .ok r { st with gs := gs' }
  | .exc c gs' => .exc c { st with gs := gs' }
@[simp] def mFn (n : Nat) (F : FS) (mr : M (List RV)) (st0 : ST) : R RV := (mr.bind fun r => fun st => match escAll r st with
  | some (q, st') => if q.length = n then (F q st'.gs).inn st' else .stuck
  | none => .stuck) st0
section
variable {X : Cx} {N : Ent} {W : WX} {e a b c : Expr} {es : List Expr} {ma mb mc : M RV} {mt mu : M Bool} {mr : M (List RV)} {pos : Pos}
theorem VRels.bare {L : List Addr} {as : List (List Addr)} {σ : L2.St} {H : Hp} : ∀ {vs : List V} {qs : List RV}, VRels L as σ H vs qs → (∀ q ∈ qs, ∀ i, q ≠ .bor i) → VRels L as [] H vs qs
  | _, _, .nil, _ => .nil
  | _, q :: qs, .cons h t, n => by
    refine .cons ?_ (VRels.bare t fun z hz => n z (List.mem_cons_of_mem _ hz))
    cases q with
    | dat d => exact h
    | hdl j => exact h
    | bor i => exact absurd rfl (n _ List.mem_cons_self i)
theorem VRel.back {L : List Addr} {as : List (List Addr)} {σ : L2.St} {H : Hp} {v : V} {q : RV} (h : VRel L as [] H v q) : VRel L as σ H v q := by
  cases q with
  | dat d => exact h
  | hdl j => exact h
  | bor i => exact absurd (show ([] : L2.St)[i]? = some (some v) from h) (by simp)
/-- behind a call -/
theorem Rel.after {L L' : List Addr} {as1 as' : List (List Addr)} {st : ST} {σ : L2.St} {H H' : Hp} {gs' : List GO} (r : Rel N L as1 st σ H) (s : Stp as1 L H as' L' H') (g : GRel N.cls L' as' gs' H') :
    Rel N L' as' { st with gs := gs' } σ H' ∧ Ext L as1 H L' as' H' := by
  have inL : ∀ p, p ∈ as1.flatten → p ∈ L := fun p hp => by
    obtain ⟨fp, h1, h2⟩ := List.mem_flatten.mp hp
    exact r.g.gin fp h1 p h2
  have sm : Same (mask H L) (mask H' L') := fun p o h => by
    obtain ⟨e, n⟩ := of_mask h
    refine mask_of (s.frame p o e fun z => n (inL p z)) fun z => ?_
    rcases s.new p z with z | z
    · exact n z
    · rw [e] at z; cases z
  have f0 : ∀ p, H p = none → N.H0 p = none := fun p hp => by
    cases e : N.H0 p with
    | none => rfl
    | some o =>
      by_cases m : p ∈ N.as0.flatten
      · have l0 := r.ent p m
        exact absurd hp (r.live p (r.sub p l0))
      · rw [r.frame p o e m] at hp; cases hp
  refine ⟨?_, sm, s.hd⟩
  exact {
    len := r.len
    l0 := r.l0
    sub := fun p hp => s.sub p (r.sub p hp)
    new := fun p hp => by
      rcases s.new p hp with z | z
      · exact r.new p z
      · exact .inr (f0 p z)
    live := s.live
    frame := fun p o h n => by
      refine s.frame p o (r.frame p o h n) fun z => ?_
      rcases r.gnew p z with z | z
      · exact n z
      · rw [z] at h
        cases h
    dat := fun i d q => by
      obtain ⟨v, h1, h2⟩ := r.dat i d q
      exact ⟨v, h1, h2.mono sm⟩
    own := fun i ds q => by
      obtain ⟨p, vs, h1, h2, h3, h4, h5, h6⟩ := r.own i ds q
      refine ⟨p, vs, h1, s.frame p _ h2 h6, h3.mono sm, s.sub p h4, h5, fun z => ?_⟩
      rcases s.anew p z with z | z
      · exact h6 z
      · rw [h2] at z; cases z
    owd := r.owd
    hdl := fun i j q => by
      obtain ⟨a, fp, h1, h2⟩ := r.hdl i j q
      obtain ⟨fp', h3⟩ := s.hd.own j a fp h1
      exact ⟨a, fp', h3, h2⟩
    g := g
    gnew := fun p hp => by
      rcases s.anew p hp with z | z
      · exact r.gnew p z
      · exact .inr (f0 p z)
    hd := r.hd.trans s.hd
    nt := s.nt
    ent := r.ent }
theorem VRels.length {L : List Addr} {as : List (List Addr)} {σ : L2.St} {H : Hp} : ∀ {vs : List V} {qs : List RV}, VRels L as σ H vs qs → vs.length = qs.length
  | _, _, .nil => rfl
  | _, _, .cons _ t => by rw [List.length_cons, List.length_cons, VRels.length t]
theorem je_call {cls : Cl} {k n : Nat} {f : Addr} {fd : FuncData} {ps : List Str} {x : Str} {p : Pos} {F : FS} (G : FnOk X.prog X.w X.K X.mg X.base (L2.CX X.prog X.w) k f fd ps (spF cls n F)) (hcls : N.cls = cls) (hr : Room k X.A) (hm : X.mg x = some (.ref f)) (hk : PySem.W.keepIn X.K (.ref f) = true)
    (hb : Binds X.K fd ps []) (tk : Takes X W) (ha : JA X N W (e :: es) mr) (hg : Gl X x := by rfl) (hdb : (x == ("__debug__" : Str)) = false := by decide)
    (he : starEach (e :: es) X.env = (false, eval e X.env) :: starEach es X.env := by rfl) (hpl : (backTo pos (starEach es X.env)).any (·.1) = false := by rfl) : JE X N W (.Call (.Name x p) (e :: es) [] pos) (mFn n F mr) := by
  subst hcls
  refine PE.weak (pe_callS (E := WE W) G hr hg hm hk hb (fun σ => passAt tk σ) ha hdb he hpl) fun σ H Q ⟨L, as1, st, rel, h⟩ => ?_
  refine sem_mono (fin_bind (P1 := VRels) rel h) fun vs H1 ⟨L3, as3, s3, rv3, r3, v3, x3, f3⟩ => ?_
  cases e1 : escAll rv3 s3 with
  | none => rw [e1] at f3; exact f3.elim
  | some pq =>
    obtain ⟨q, s4⟩ := pq
    rw [e1] at f3
    dsimp only at f3
    by_cases hl : q.length = n
    · rw [if_pos hl] at f3
      obtain ⟨L4, r4, x4, v4, n4⟩ := Rel.escAll r3 v3 e1
      have f4 := Fin.from f3 x4
      refine ⟨by rw [v4.length]; exact hl, as3, L4, q, s4.gs, ⟨r4.live, r4.nt⟩, v4.bare n4, r4.g, ?_⟩
      cases e2 : F q s4.gs with
      | stuck => rw [e2] at f4; exact f4.elim
      | ok r gs' =>
        rw [e2] at f4
        intro v H' L' as' sp g' vr
        obtain ⟨r5, x5⟩ := r4.after sp g'
        exact f4 L' as' v H' r5 vr.back x5
      | exc c gs' =>
        rw [e2] at f4
        intro H' L' as' sp g'
        obtain ⟨r5, x5⟩ := r4.after sp g'
        exact f4 L' as' H' r5 x5
    · rw [if_neg hl] at f3
      exact f3.elim

/-! ### statements -/
inductive Flw where
  | nx | ret (r : RV) | brk | cnt
def FinS (N : Ent) (W : WX) (L : List Addr) (as1 : List (List Addr)) (H : Hp) (r : R Flw) (D : Ends) : Prop := match r with
  | .stuck => False
  | .ok .nx st' => ∀ L' as1' σ' H', Rel N L' as1' st' σ' H' → Ext L as1 H L' as1' H' → D.nx σ' H'
  | .ok .brk st' => ∀ L' as1' σ' H', Rel N L' as1' st' σ' H' → Ext L as1 H L' as1' H' → D.bk σ' H'
  | .ok .cnt st' => ∀ L' as1' σ' H', Rel N L' as1' st' σ' H' → Ext L as1 H L' as1' H' → D.ct σ' H'
  | .ok (.ret rv) st' => ∀ L' as1' σ' v H', Rel N L' as1' st' σ' H' → VRel L' as1' σ' H' v rv → Ext L as1 H L' as1' H' → D.rt v H'
  | .exc c st' => ∀ L' as1' σ' H', Rel N L' as1' st' σ' H' → Ext L as1 H L' as1' H' → W (N.cls c) none σ' H'
def semS (N : Ent) (W : WX) (m : M Flw) : TS := fun D σ H => ∃ L as1 st, Rel N L as1 st σ H ∧ FinS N W L as1 H (m st) D
def JS (X : Cx) (N : Ent) (W : WX) (s : Stmt) (m : M Flw) : Prop := PS X s (semS N W m)
def JSs (X : Cx) (N : Ent) (W : WX) (s : List Stmt) (m : M Flw) : Prop := PSs X s (semS N W m)
theorem PS.weak {s : Stmt} {t t' : TS} (h : PS X s t) (w : ∀ D σ H, t' D σ H → t D σ H) : PS X s t' := ⟨fun pins sh σ H D I q => h.run pins sh σ H D I (w _ _ _ q)⟩
theorem PSs.weak {s : List Stmt} {t t' : TS} (h : PSs X s t) (w : ∀ D σ H, t' D σ H → t D σ H) : PSs X s t' := ⟨fun pins sh σ H D I q => h.run pins sh σ H D I (w _ _ _ q)⟩
theorem FinS.from {L L1 : List Addr} {as1 as2 : List (List Addr)} {H H1 : Hp} {r : R Flw} {D : Ends} (h : FinS N W L as1 H r D) (e : Ext L as1 H L1 as2 H1) : FinS N W L1 as2 H1 r D := by
  cases r with
  | stuck => exact h
  | exc c st' => exact fun L' as1' σ' H' q1 q2 => h L' as1' σ' H' q1 (e.trans q2)
  | ok f st' =>
    cases f with
    | nx => exact fun L' as1' σ' H' q1 q2 => h L' as1' σ' H' q1 (e.trans q2)
    | brk => exact fun L' as1' σ' H' q1 q2 => h L' as1' σ' H' q1 (e.trans q2)
    | cnt => exact fun L' as1' σ' H' q1 q2 => h L' as1' σ' H' q1 (e.trans q2)
    | ret rv => exact fun L' as1' σ' v H' q1 q2 q3 => h L' as1' σ' v H' q1 q2 (e.trans q3)
/-- an expression, then the statement's own work -/
theorem finS_bind {α β : Type} {P1 : Pr α β} {m : M α} {f : α → M Flw} {D : Ends} {L : List Addr} {as1 : List (List Addr)} {st : ST} {σ : L2.St} {H : Hp} (r : Rel N L as1 st σ H) (h : FinS N W L as1 H ((m.bind f) st) D) :
    sem N W P1 m σ H fun b H1 => ∃ L1 as2 st1 a, Rel N L1 as2 st1 σ H1 ∧ P1 L1 as2 σ H1 b a ∧ FinS N W L1 as2 H1 (f a st1) D := by
  refine ⟨L, as1, st, r, ?_⟩
  unfold M.bind at h
  cases e : m st with
  | stuck => rw [e] at h; exact h
  | exc c st' => rw [e] at h; exact fun L' as1' H' q q2 => h L' as1' σ H' q q2
  | ok a st' =>
    rw [e] at h
    intro L' as1' b H' q1 q2 q3
    exact ⟨L', as1', st', a, q1, q2, FinS.from h q3⟩
theorem finS_bindX {α β : Type} {P1 : Pr α β} {m : M α} {f : α → M Flw} {D : Ends} {L : List Addr} {as1 : List (List Addr)} {st : ST} {σ : L2.St} {H : Hp} (r : Rel N L as1 st σ H) (h : FinS N W L as1 H ((m.bind f) st) D) :
    sem N W P1 m σ H fun b H1 => ∃ L1 as2 st1 a, Rel N L1 as2 st1 σ H1 ∧ P1 L1 as2 σ H1 b a ∧ Ext L as1 H L1 as2 H1 ∧ FinS N W L1 as2 H1 (f a st1) D := by
  refine ⟨L, as1, st, r, ?_⟩
  unfold M.bind at h
  cases e : m st with
  | stuck => rw [e] at h; exact h
  | exc c st' => rw [e] at h; exact fun L' as1' H' q q2 => h L' as1' σ H' q q2
  | ok a st' =>
    rw [e] at h
    intro L' as1' b H' q1 q2 q3
    exact ⟨L', as1', st', a, q1, q2, q3, FinS.from h q3⟩
@[simp] def mThen (m1 m2 : M Flw) (st0 : ST) : R Flw := (m1.bind fun f => match f with
  | .nx => m2
  | .ret r => fun st => .ok (.ret r) st
  | .brk => fun st => .ok .brk st
  | .cnt => fun st => .ok .cnt st) st0
@[simp] def mNx (st : ST) : R Flw := .ok .nx st
@[simp] def mExpr (me : M RV) (st0 : ST) : R Flw := (me.bind fun _ => fun st => .ok .nx st) st0
@[simp] def mRet (me : M RV) (st0 : ST) : R Flw := (me.bind fun r => fun st => .ok (.ret r) st) st0
@[simp] def mRetN (st : ST) : R Flw := .ok (.ret (.dat .none)) st
@[simp] def mSet (i : Nat) (me : M RV) (st0 : ST) : R Flw := (me.bind fun r => fun st => match st.esc r with
  | some (.dat d, st') => if i < st'.sl.length then .ok .nx { st' with sl := st'.sl.set i (.dat d) } else .stuck
  | some (.hdl j, st') => if i < st'.sl.length then .ok .nx { st' with sl := st'.sl.set i (.hdl j) } else .stuck
  | _ => .stuck) st0
variable {s : Stmt} {ss : List Stmt} {m1 m2 : M Flw}
theorem semS_then {D : Ends} {σ : L2.St} {H : Hp} (h : semS N W (mThen m1 m2) D σ H) : tSeq (semS N W m1) (semS N W m2) D σ H := by
  obtain ⟨L, as1, st, r, h⟩ := h
  refine ⟨L, as1, st, r, ?_⟩
  unfold mThen M.bind at h
  cases e : m1 st with
  | stuck => rw [e] at h; exact h
  | exc c st' => rw [e] at h; exact h
  | ok f st' =>
    rw [e] at h
    cases f with
    | nx => exact fun L' as1' σ' H' q1 q2 => ⟨L', as1', st', q1, FinS.from h q2⟩
    | brk => exact h
    | cnt => exact h
    | ret rv => exact h
theorem js_nil : JSs X N W [] mNx := PSs.weak pss_nil fun D σ H ⟨L, as1, st, r, h⟩ => h L as1 σ H r .refl
theorem js_cons (h1 : JS X N W s m1) (h2 : JSs X N W ss m2) : JSs X N W (s :: ss) (mThen m1 m2) := PSs.weak (pss_cons h1 h2) fun D σ H h => semS_then h
theorem js_one (h1 : JS X N W s m1) : JSs X N W [s] m1 := pss_one h1
theorem js_pass : JS X N W (.Pass pos) mNx := PS.weak ps_pass fun D σ H ⟨L, as1, st, r, h⟩ => h L as1 σ H r .refl
theorem js_break : JS X N W (.Break pos) (fun st => .ok .brk st) := PS.weak ps_break fun D σ H ⟨L, as1, st, r, h⟩ => h L as1 σ H r .refl
theorem js_continue : JS X N W (.Continue pos) (fun st => .ok .cnt st) := PS.weak ps_continue fun D σ H ⟨L, as1, st, r, h⟩ => h L as1 σ H r .refl
theorem js_never : JS X N W s (fun _ => .stuck) := PS.weak ps_never fun D σ H ⟨L, as1, st, r, h⟩ => h
theorem js_expr (he : JE X N W e ma) (hs : swapsWith e none pos.line X.env = pure false := by rfl) : JS X N W (.Expr e pos) (mExpr ma) := by
  refine PS.weak (ps_expr he hs) fun D σ H ⟨L, as1, st, r, h⟩ => ?_
  exact sem_mono (finS_bind (P1 := VRel) r h) fun v H1 ⟨L3, as3, s3, rv3, r3, v3, f3⟩ => f3 L3 as3 σ H1 r3 .refl
theorem js_ret (he : JE X N W e ma) : JS X N W (.Return (some e) pos) (mRet ma) := by
  refine PS.weak (ps_ret he) fun D σ H ⟨L, as1, st, r, h⟩ => ?_
  exact sem_mono (finS_bind (P1 := VRel) r h) fun v H1 ⟨L3, as3, s3, rv3, r3, v3, f3⟩ => f3 L3 as3 σ v H1 r3 v3 .refl
theorem js_retN : JS X N W (.Return none pos) mRetN := PS.weak ps_retN fun D σ H ⟨L, as1, st, r, h⟩ => h L as1 σ .non H r .non .refl
theorem js_if {ss' : List Stmt} (hc : JT X N W c mt) (ha : JSs X N W ss m1) (hb : JSs X N W ss' m2) : JS X N W (.If c ss ss' pos) (mIf mt m1 m2) := by
  refine PS.weak (ps_if hc ha hb) fun D σ H ⟨L, as1, st, r, h⟩ => ?_
  refine sem_mono (finS_bind (P1 := pB) r h) fun v H1 ⟨L3, as3, s3, b3, r3, v3, f3⟩ => ?_
  cases v3
  cases v with
  | true => exact iteT ⟨L3, as3, s3, r3, f3⟩
  | false => exact iteF ⟨L3, as3, s3, r3, f3⟩
/-- a value comes to a slot -/
theorem fin_set {i : Nat} {D : Ends} {L : List Addr} {as1 : List (List Addr)} {st : ST} {σ : L2.St} {H : Hp} {v : V} {rv : RV} (r : Rel N L as1 st σ H) (hv : VRel L as1 σ H v rv) (h : FinS N W L as1 H (match st.esc rv with
    | some (.dat d, st') => if i < st'.sl.length then .ok .nx { st' with sl := st'.sl.set i (.dat d) } else .stuck
    | some (.hdl j, st') => if i < st'.sl.length then .ok .nx { st' with sl := st'.sl.set i (.hdl j) } else .stuck
    | _ => .stuck) D) : D.nx (σ.set i (some v)) H := by
  cases e1 : st.esc rv with
  | none => rw [e1] at h; exact h.elim
  | some p =>
    obtain ⟨q, s4⟩ := p
    rw [e1] at h
    obtain ⟨L4, r4, x4, v4, n4⟩ := r.esc hv e1
    cases q with
    | bor j => exact absurd rfl (n4 j)
    | dat d =>
      dsimp only at h
      by_cases hl : i < s4.sl.length
      · rw [if_pos hl] at h
        exact h L4 as1 _ H (r4.setDat (by rw [← r4.len]; exact hl) v4) x4
      · rw [if_neg hl] at h; exact h.elim
    | hdl j =>
      dsimp only at h
      by_cases hl : i < s4.sl.length
      · rw [if_pos hl] at h
        obtain ⟨w, fp, h1, rfl⟩ := v4
        exact h L4 as1 _ H (r4.setHdl (by rw [← r4.len]; exact hl) h1) x4
      · rw [if_neg hl] at h; exact h.elim
theorem js_set {i : Nat} {x : Str} {pos' : Pos} (hN : X.N.Nodup) (he : JE X N W e ma) (hi : X.N[i]? = some x := by rfl) (hx : Loc X.env.scope x := by first | exact Or.inl rfl | exact Or.inr rfl) (hs : swapsWith e (some (.Name x pos')) pos.line X.env = pure false := by rfl) (hf : X.fn x = true ∨ X.env.scope.names.lookup x = some .local := by first | exact .inl rfl | exact .inr rfl | assumption) :
    JS X N W (.Assign [.Name x pos'] e pos) (mSet i ma) := by
  refine PS.weak (ps_set hN hi hx he hs hf) fun D σ H ⟨L, as1, st, r, h⟩ => ?_
  exact sem_mono (finS_bind (P1 := VRel) r h) fun v H1 ⟨L3, as3, s3, rv3, r3, v3, f3⟩ => fin_set r3 v3 f3
end

/-! ### a def's own function -/
@[simp] def RV.sv : RV → SV
  | .dat d => .dat d
  | .hdl j => .hdl j
  | .bor _ => .un
@[simp] def retF (n0 : Nat) (st : ST) : RV → FR
  | .hdl j => if j < n0 then .ok (.hdl j) (st.gs.take n0) else .stuck
  | .dat d => .ok (.dat d) (st.gs.take n0)
  | .bor i => match st.look (.bor i) with
    | some d => .ok (.dat d) (st.gs.take n0)
    | none => .stuck
@[simp] def endF (n0 : Nat) : R Flw → FR
  | .stuck => .stuck
  | .exc c st => .exc c (st.gs.take n0)
  | .ok .nx st => .ok (.dat .none) (st.gs.take n0)
  | .ok (.ret r) st => retF n0 st r
  | .ok .brk _ => .stuck
  | .ok .cnt _ => .stuck
@[simp] def runF (n : Nat) (mb : M Flw) : FS := fun args gs => endF gs.length (mb ⟨args.map RV.sv ++ List.replicate (n - args.length) .un, gs⟩)
theorem GRel.take {cls : Cl} {L : List Addr} {as1 : List (List Addr)} {gs : List GO} {H : Hp} (g : GRel cls L as1 gs H) (n : Nat) : GRel cls L (as1.take n) (gs.take n) H where
  glen := by rw [List.length_take, List.length_take, g.glen]
  gok := fun j go fp e f => by
    have hj : j < n := by
      have := (List.getElem?_eq_some_iff.mp f).1
      rw [List.length_take] at this
      omega
    rw [List.getElem?_take_of_lt hj] at e f
    exact g.gok j go fp e f
  gin := fun fp h => g.gin fp (List.mem_of_mem_take h)
  gnd := by
    have := g.gnd
    rw [← List.take_append_drop n as1, List.flatten_append] at this
    exact (List.nodup_append.mp this).1
theorem Rel.stp {N : Ent} {L : List Addr} {as1 : List (List Addr)} {st : ST} {σ : L2.St} {H : Hp} (r : Rel N L as1 st σ H) : Stp N.as0 N.L0 N.H0 (as1.take N.as0.length) L H :=
  ⟨r.sub, r.new, r.live, r.frame, fun a ha => r.gnew a (by
    obtain ⟨fp, h1, h2⟩ := List.mem_flatten.mp ha
    exact List.mem_flatten.mpr ⟨fp, List.mem_of_mem_take h1, h2⟩), r.hd.take (Nat.le_refl _), r.nt⟩
theorem vrels_get {L : List Addr} {as : List (List Addr)} {H : Hp} : ∀ {vs : List V} {args : List RV} {i : Nat} {a : RV}, VRels L as [] H vs args → args[i]? = some a → ∃ v, vs[i]? = some v ∧ VRel L as [] H v a
  | _, _, _, _, .nil, e => by simp at e
  | _, _, 0, _, .cons h _, e => by
    rw [List.getElem?_cons_zero] at e
    cases e
    exact ⟨_, List.getElem?_cons_zero, h⟩
  | _, _, i + 1, _, .cons _ r, e => by
    rw [List.getElem?_cons_succ] at e
    obtain ⟨v, q, h⟩ := vrels_get r e
    exact ⟨v, by rw [List.getElem?_cons_succ]; exact q, h⟩
theorem rel_start {as0 : List (List Addr)} {L0 : List Addr} {H : Hp} {cls : Cl} {vs : List V} {args : List RV} {gs : List GO} {Nn : List Str} (live : ∀ a ∈ L0, H a ≠ none) (nt : ∀ a ∈ L0, ∀ ws, H a ≠ some (.tup ws)) (hv : VRels L0 as0 [] H vs args) (g : GRel cls L0 as0 gs H) :
    Rel ⟨as0, L0, H, cls⟩ L0 as0 ⟨args.map RV.sv ++ List.replicate (Nn.length - args.length) .un, gs⟩ (L2.start Nn vs) H := by
  have get : ∀ (i : Nat) (x : SV), (args.map RV.sv ++ List.replicate (Nn.length - args.length) SV.un)[i]? = some x → x = .un ∨ ∃ a v, args[i]? = some a ∧ x = a.sv ∧ (L2.start Nn vs)[i]? = some (some v) ∧ VRel L0 as0 [] H v a := fun i x e => by
    by_cases hi : i < args.length
    · rw [List.getElem?_append_left (by rw [List.length_map]; exact hi), List.getElem?_map] at e
      cases q : args[i]? with
      | none => rw [q] at e; cases e
      | some a =>
        rw [q] at e
        cases e
        obtain ⟨v, h1, h2⟩ := vrels_get hv q
        refine .inr ⟨a, v, rfl, rfl, ?_, h2⟩
        unfold L2.start
        rw [List.getElem?_append_left (by rw [List.length_map, hv.length]; exact hi), List.getElem?_map, h1]
        rfl
    · rw [List.getElem?_append_right (by rw [List.length_map]; omega)] at e
      exact .inl (List.eq_of_mem_replicate (List.mem_of_getElem? e))
  exact {
    len := by
      unfold L2.start
      rw [List.length_append, List.length_append, List.length_map, List.length_map, List.length_replicate, List.length_replicate, hv.length]
    l0 := live
    sub := fun a h => h
    new := fun a h => .inl h
    live := live
    frame := fun p o h _ => h
    dat := fun i d e => by
      rcases get i _ e with z | ⟨a, v, h1, h2, h3, h4⟩
      · cases z
      · cases a with
        | dat d' => cases h2; exact ⟨v, h3, h4⟩
        | hdl j => cases h2
        | bor j => cases h2
    own := fun i d e => by
      rcases get i _ e with z | ⟨a, v, h1, h2, h3, h4⟩
      · cases z
      · cases a <;> cases h2
    owd := fun i j d d' _ e _ => by
      rcases get i _ e with z | ⟨a, v, h1, h2, h3, h4⟩
      · cases z
      · cases a <;> cases h2
    hdl := fun i j e => by
      rcases get i _ e with z | ⟨a, v, h1, h2, h3, h4⟩
      · cases z
      · cases a with
        | dat d' => cases h2
        | hdl j' =>
          cases h2
          obtain ⟨p, fp, q1, q2⟩ := h4
          exact ⟨p, fp, q1, by rw [h3, q2]⟩
        | bor j => cases h2
    g := g
    gnew := fun a h => .inl h
    hd := .refl
    nt := nt
    ent := fun a h => by
      obtain ⟨fp, h1, h2⟩ := List.mem_flatten.mp h
      exact g.gin fp h1 a h2 }
section
variable {P : Program} {w : World} {K : PySem.W.Frag} {mg : Str → Option Value} {base : Heap}
theorem fn_end_at {qual : Str} {st : Stmt} {f : Addr} {Nn ps : List Str} {mb : M Flw} {cls : Cl} {cdv : Value} {A : Around} {outer : List Env} {s : Shared} {H : Hp} {vs : List V} {Q : VK} {E : XK} {as0 : List (List Addr)} {L0 : List Addr} {args : List RV} {gs : List GO}
    (hbody : JSs (cxOf (L2.CX P w) P w K mg base Nn qual (defScope st) f cdv A outer s H E) ⟨as0, L0, H, cls⟩ (fun c d _ H' => E c d H') (defBody st) mb)
    (live : (∀ a ∈ L0, H a ≠ none) ∧ ∀ a ∈ L0, ∀ ws, H a ≠ some (.tup ws)) (hv : VRels L0 as0 [] H vs args) (g : GRel cls L0 as0 gs H)
    (h : match runF Nn.length mb args gs with
      | .stuck => False
      | .ok r gs' => ∀ v H' L' as', Stp as0 L0 H as' L' H' → GRel cls L' as' gs' H' → VRel L' as' [] H' v r → Q v H'
      | .exc c gs' => ∀ H' L' as', Stp as0 L0 H as' L' H' → GRel cls L' as' gs' H' → E (cls c) none H') :
    ∃ t, PSs (cxOf (L2.CX P w) P w K mg base Nn qual (defScope st) f cdv A outer s H E) (defBody st) t ∧ t { nx := fun _ H' => Q .non H', rt := Q } (L2.start Nn vs) H := by
  refine ⟨_, hbody, L0, as0, _, rel_start live.1 live.2 hv g, ?_⟩
  unfold runF at h
  have gl : gs.length = as0.length := g.glen.symm
  cases e : mb ⟨args.map RV.sv ++ List.replicate (Nn.length - args.length) .un, gs⟩ with
  | stuck => rw [e] at h; exact h
  | exc c st' =>
    rw [e] at h
    intro L' as1' σ' H' r _
    refine h H' L' _ r.stp ?_
    rw [gl]
    exact r.g.take _
  | ok fl st' =>
    rw [e] at h
    cases fl with
    | brk => exact h.elim
    | cnt => exact h.elim
    | nx =>
      intro L' as1' σ' H' r _
      refine h .non H' L' _ r.stp ?_ .non
      rw [gl]
      exact r.g.take _
    | ret rv =>
      intro L' as1' σ' v H' r hvr _
      dsimp only [endF] at h
      cases rv with
      | dat d =>
        refine h v H' L' _ r.stp ?_ hvr
        rw [gl]
        exact r.g.take _
      | hdl j =>
        dsimp only [retF] at h
        by_cases hj : j < gs.length
        · rw [if_pos hj] at h
          refine h v H' L' _ r.stp ?_ ?_
          · rw [gl]
            exact r.g.take _
          · obtain ⟨p, fp, q1, q2⟩ := hvr
            refine ⟨p, fp, ?_, q2⟩
            rw [List.getElem?_take_of_lt (by show j < as0.length; omega)]
            exact q1
        · rw [if_neg hj] at h
          exact h.elim
      | bor i =>
        dsimp only [retF] at h
        cases q : st'.sl[i]? with
        | none =>
          have z : st'.look (.bor i) = none := by simp only [ST.look, q]
          rw [z] at h; exact h.elim
        | some sv =>
          cases sv with
          | un =>
            have z : st'.look (.bor i) = none := by simp only [ST.look, q]
            rw [z] at h; exact h.elim
          | hdl j =>
            have z : st'.look (.bor i) = none := by simp only [ST.look, q]
            rw [z] at h; exact h.elim
          | dat d =>
            have z : st'.look (.bor i) = some d := by simp only [ST.look, q]
            rw [z] at h
            have z2 : st'.esc (.bor i) = some (.dat d, st') := by simp only [ST.esc, q]
            obtain ⟨L4, r4, x4, v4, n4⟩ := r.esc hvr z2
            refine h v H' L4 _ r4.stp ?_ v4
            rw [gl]
            exact r4.g.take _
          | own ds =>
            have z : st'.look (.bor i) = some (.list ds) := by simp only [ST.look, q]
            rw [z] at h
            have z2 : st'.esc (.bor i) = some (.dat (.list ds), { st' with sl := st'.sl.set i (.dat (.list ds)) }) := by simp only [ST.esc, q]
            obtain ⟨L4, r4, x4, v4, n4⟩ := r.esc hvr z2
            refine h v H' L4 _ r4.stp ?_ v4
            rw [gl]
            exact r4.g.take _
theorem fn_end {qual : Str} {st : Stmt} {f : Addr} {Nn ps : List Str} {mb : M Flw} {cls : Cl} {cdv : Value} {A : Around} {outer : List Env} {s : Shared} {H : Hp} {vs : List V} {Q : VK} {E : XK}
    (hbody : ∀ (as0 : List (List Addr)) (L0 : List Addr), JSs (cxOf (L2.CX P w) P w K mg base Nn qual (defScope st) f cdv A outer s H E) ⟨as0, L0, H, cls⟩ (fun c d _ H' => E c d H') (defBody st) mb) (h : spF cls ps.length (runF Nn.length mb) vs H Q E) :
    ∃ t, PSs (cxOf (L2.CX P w) P w K mg base Nn qual (defScope st) f cdv A outer s H E) (defBody st) t ∧ t { nx := fun _ H' => Q .non H', rt := Q } (L2.start Nn vs) H := by
  obtain ⟨hl, as0, L0, args, gs, live, hv, g, h⟩ := h
  exact fn_end_at (ps := ps) (hbody as0 L0) live hv g h
theorem fn_ok {x qual : Str} {st : Stmt} {f : Addr} {fd : FuncData} {Nn ps : List Str} {k : Nat} {mb : M Flw} (cls : Cl) (F : Fun K x qual st f fd) (S : FnScope Nn ps (defScope st))
    (hbody : ∀ (cdv : Value) (A : Around) (outer : List Env) (s : Shared) (H : Hp) (E : XK), Room k (A.deeper (envOfC qual (defScope st) s.heap.objs.size f cdv)) → ∀ (as0 : List (List Addr)) (L0 : List Addr),
      JSs (cxOf (L2.CX P w) P w K mg base Nn qual (defScope st) f cdv A outer s H E) ⟨as0, L0, H, cls⟩ (fun c d _ H' => E c d H') (defBody st) mb) :
    FnOk P w K mg base (L2.CX P w) (k + 1) f fd ps (spF cls ps.length (runF Nn.length mb)) :=
  F.okX S (fun vs H Q E h => h.1) fun cdv A outer s H vs Q E hr h => fn_end (hbody cdv A outer s H E hr) h
/-- .. whose code object is known -/
theorem fn_okC {x qual : Str} {st : Stmt} {f : Addr} {fd : FuncData} {Nn ps : List Str} {k : Nat} {mb : M Flw} (cls : Cl) (F : Fun K x qual st f fd) (S : FnScope Nn ps (defScope st))
    (hbody : ∀ (cdv : Value), fd.code = cdv → ∀ (A : Around) (outer : List Env) (s : Shared) (H : Hp) (E : XK), Room k (A.deeper (envOfC qual (defScope st) s.heap.objs.size f cdv)) → ∀ (as0 : List (List Addr)) (L0 : List Addr),
      JSs (cxOf (L2.CX P w) P w K mg base Nn qual (defScope st) f cdv A outer s H E) ⟨as0, L0, H, cls⟩ (fun c d _ H' => E c d H') (defBody st) mb) :
    FnOk P w K mg base (L2.CX P w) (k + 1) f fd ps (spF cls ps.length (runF Nn.length mb)) := by
  obtain ⟨oc, od, kV, doc, pm, an, cdv, ct, osl, rfl, lk, hcd⟩ := F.ex
  exact fn_of lk hcd S (fun vs H Q E h => h.1) fun A outer s H vs Q E hr h => fn_end (hbody cdv rfl A outer s H E hr) h
end
end JL
/-! J5: loops. -/
namespace JL
open PySem PySem.Spec PyProof.Rows L2

def loopM {α : Type} (put : α → M Flw) (body : M Flw) : List α → M Flw
  | [] => mNx
  | a :: r => fun st => match put a st with
    | .ok .nx st1 => (match body st1 with
      | .ok .nx st2 => loopM put body r st2
      | .ok .cnt st2 => loopM put body r st2
      | .ok .brk st2 => .ok .nx st2
      | .ok (.ret v) st2 => .ok (.ret v) st2
      | .exc c st2 => .exc c st2
      | .stuck => .stuck)
    | _ => .stuck
section
variable {X : Cx} {N : Ent} {W : WX} {e a b c : Expr} {es : List Expr} {ma mb mc : M RV} {mt mu : M Bool} {mr : M (List RV)} {pos : Pos} {s : Stmt} {ss : List Stmt} {m1 m2 : M Flw}
theorem for_core {α : Type} {put : α → M Flw} {body : M Flw} {J : It} {g : TG} (its : List α) (Src : List Addr → Hp → Prop) (mono : ∀ L H L' H', Same (mask H L) (mask H' L') → Src L H → Src L' H')
    (go : ∀ (i : Nat) L H, i < its.length → Src L H → J.go i H) (stop : ∀ L H, Src L H → J.stop its.length H)
    (hput : ∀ (i : Nat) (a : α), its[i]? = some a → ∀ L as1 st σ H st1, Rel N L as1 st σ H → Src L H → put a st = .ok .nx st1 → ∀ x H', J.yld i H x H' → ∀ Q : L2.St → Hp → Prop,
      (∀ L2 as2 σ2 H2, Rel N L2 as2 st1 σ2 H2 → Ext L as1 H L2 as2 H2 → Q σ2 H2) → g x σ H' Q)
    {D : Ends} {σ : L2.St} {H : Hp} {L : List Addr} {as1 : List (List Addr)} {st : ST} (r : Rel N L as1 st σ H) (src : Src L H) (h : FinS N W L as1 H (loopM put body its st) D) :
    ∃ Wv : Nat → Nat → L2.St → Hp → Prop, (∃ m, Wv 0 m σ H) ∧ ∀ i m σ H, Wv i m σ H →
      (J.stop i H ∧ D.nx σ H) ∨ (J.go i H ∧ ∃ Nx : L2.St → Hp → Prop, (∀ σ' H', Nx σ' H' → ∃ m', m' < m ∧ Wv (i + 1) m' σ' H') ∧ ∀ x H', J.yld i H x H' → g x σ H' fun σ2 H2 => semS N W body { D with nx := Nx, ct := Nx, bk := D.nx } σ2 H2) := by
  refine ⟨fun i m σ H => m = its.length - i ∧ i ≤ its.length ∧ ∃ L as1 st, Rel N L as1 st σ H ∧ Src L H ∧ FinS N W L as1 H (loopM put body (its.drop i) st) D, ⟨_, rfl, Nat.zero_le _, L, as1, st, r, src, h⟩, ?_⟩
  rintro i m σ H ⟨rfl, hi, L, as1, st, r, src, h⟩
  by_cases hlt : i < its.length
  · right
    have ed : its.drop i = its[i] :: its.drop (i + 1) := List.drop_eq_getElem_cons hlt
    rw [ed] at h
    refine ⟨go i L H hlt src, fun σ' H' => ∃ L as1 st, Rel N L as1 st σ' H' ∧ Src L H' ∧ FinS N W L as1 H' (loopM put body (its.drop (i + 1)) st) D, fun σ' H' q => ⟨_, by omega, rfl, hlt, q⟩, fun x H' y => ?_⟩
    simp only [loopM] at h
    cases e1 : put its[i] st with
    | stuck => rw [e1] at h; exact h.elim
    | exc c s1 => rw [e1] at h; exact h.elim
    | ok fl s1 =>
      cases fl with
      | ret v => rw [e1] at h; exact h.elim
      | brk => rw [e1] at h; exact h.elim
      | cnt => rw [e1] at h; exact h.elim
      | nx =>
        rw [e1] at h
        dsimp only at h
        refine hput i its[i] (List.getElem?_eq_getElem hlt) L as1 st σ H s1 r src e1 x H' y _ fun L2' as2 σ2 H2 r2 x2 => ?_
        refine ⟨L2', as2, s1, r2, ?_⟩
        cases e2 : body s1 with
        | stuck => rw [e2] at h; exact h
        | exc c s2 => rw [e2] at h; exact FinS.from (r := .exc c s2) h x2
        | ok fl s2 =>
          rw [e2] at h
          cases fl with
          | ret v => exact FinS.from h x2
          | nx => exact fun L3 as3 σ3 H3 r3 x3 => ⟨L3, as3, s2, r3, mono _ _ _ _ (x2.trans x3).dat src, FinS.from h (x2.trans x3)⟩
          | cnt => exact fun L3 as3 σ3 H3 r3 x3 => ⟨L3, as3, s2, r3, mono _ _ _ _ (x2.trans x3).dat src, FinS.from h (x2.trans x3)⟩
          | brk => exact fun L3 as3 σ3 H3 r3 x3 => h L3 as3 σ3 H3 r3 (x2.trans x3)
  · left
    have e : i = its.length := by omega
    subst e
    rw [List.drop_length] at h
    exact ⟨stop L H src, h L as1 σ H r .refl⟩
/-- the turn's item comes to a slot -/
@[simp] def putDat (i : Nat) (d : PyData) (st : ST) : R Flw := if i < st.sl.length then .ok .nx { st with sl := st.sl.set i (.dat d) } else .stuck
@[simp] def seqOf : PyData → Option (List PyData)
  | .list ds => some ds
  | .tuple ds => some ds
  | _ => none
/-- for x in e -/
@[simp] def mFor (i : Nat) (me : M RV) (body : M Flw) (st0 : ST) : R Flw := (me.bind fun r => fun st => match st.esc r with
  | some (.dat d, st') => (match seqOf d with
    | some ds => loopM (putDat i) body ds st'
    | none => .stuck)
  | _ => .stuck) st0
/-- a list or a tuple that is walked -/
def iSeq (K : PySem.W.Frag) (tl : TE) : TI := fun σ H R => tl σ H fun x H1 => (∃ a, x = .ref a ∧ (∃ xs, SqL K H1 a xs) ∧ R (Itl K a) H1) ∨ (∃ a, x = .ref a ∧ (∃ xs, SqT K H1 a xs) ∧ R (Itt K a) H1)
theorem pi_seq {tg l : Expr} {tl : TE} (hl : PE X l tl) : PI X tg l (iSeq X.K tl) := by
  refine ⟨fun pins s0 σ H R I q => thn (hl.run pins s0 σ H _ I q) fun u s1 ⟨x, H1, I1, rx, q1⟩ => ?_⟩
  have fp : ∀ p ∈ [s1.heap.objs.size], FpOk X pins H1 p := fun p hp => by
    rw [List.mem_singleton.mp hp]
    exact I1.fpOk (Nat.le_refl _) (I1.hok.fresh (Nat.le_refl _))
  rcases q1 with ⟨p, rfl, ⟨xs, hq⟩, k⟩ | ⟨p, rfl, ⟨xs, hq⟩, k⟩
  · cases rx
    obtain ⟨its, _, pl, _⟩ := I1.list hq
    exact wpAny_pyIter_list pl.isList ⟨_, _, _, _, H1, rfl, I1.kept (t' := s1.toks) (fun p o z => Heap.get?_push_of_some _ z), turn_list p _, ⟨_, Heap.get?_push_size _ rfl, rfl, rfl⟩, fp, k⟩
  · cases rx
    obtain ⟨its, _, pl, _⟩ := I1.tuple hq
    exact wpAny_pyIter_tuple (show s1.heap.IsTuple p its.toArray from pl) ⟨_, _, _, _, H1, rfl, I1.kept (t' := s1.toks) (fun p o z => Heap.get?_push_of_some _ z), turn_tuple p _, ⟨_, Heap.get?_push_size _ rfl, rfl, rfl⟩, fp, k⟩
theorem semS_mono {m : M Flw} {D D' : Ends} {σ : L2.St} {H : Hp} (h : semS N W m D σ H) (h1 : ∀ σ H, D.nx σ H → D'.nx σ H) (h2 : ∀ v H, D.rt v H → D'.rt v H) (h3 : ∀ σ H, D.bk σ H → D'.bk σ H) (h4 : ∀ σ H, D.ct σ H → D'.ct σ H) : semS N W m D' σ H := by
  obtain ⟨L, as1, st, r, h⟩ := h
  refine ⟨L, as1, st, r, ?_⟩
  cases e : m st with
  | stuck => rw [e] at h; exact h
  | exc c s1 => rw [e] at h; exact h
  | ok fl s1 =>
    rw [e] at h
    cases fl with
    | nx => exact fun L' as1' σ' H' q1 q2 => h1 _ _ (h L' as1' σ' H' q1 q2)
    | brk => exact fun L' as1' σ' H' q1 q2 => h3 _ _ (h L' as1' σ' H' q1 q2)
    | cnt => exact fun L' as1' σ' H' q1 q2 => h4 _ _ (h L' as1' σ' H' q1 q2)
    | ret rv => exact fun L' as1' σ' v H' q1 q2 q3 => h2 _ _ (h L' as1' σ' v H' q1 q2 q3)
theorem js_for {i : Nat} {x : Str} {px : Pos} (hN : X.N.Nodup) (hp : PassesOwn (model X.prog X.w) X.A X.env X.xe) (he : JE X N W e ma) (hb : JSs X N W ss m1) (hc : X.calm = true := by rfl) (hi : X.N[i]? = some x := by rfl) (hx : Loc X.env.scope x := by first | exact Or.inl rfl | exact Or.inr rfl)
    (hf : X.fn x = true ∨ X.env.scope.names.lookup x = some .local := by first | exact .inl rfl | exact .inr rfl | assumption) (hs : ∀ z, foldedSetIterable e X.env z = pure z := by intro _; rfl) : JS X N W (.For (.Name x px) e ss [] pos) (mFor i ma m1) := by
  refine PS.weak (ps_for hp hc (pi_seq he) (pg_name hN hi hx hf) hb hs) fun D σ H ⟨L, as1, st, r, h⟩ => ?_
  have key := finS_bind (P1 := VRel) r h
  have hput : ∀ (d : PyData) L as1 st σ (H : Hp) st1 (v : V), Rel N L as1 st σ H → At (mask H L) v d → putDat i d st = .ok .nx st1 → ∀ Q : L2.St → Hp → Prop,
      (∀ L2 as2 σ2 H2, Rel N L2 as2 st1 σ2 H2 → Ext L as1 H L2 as2 H2 → Q σ2 H2) → gName i v σ H Q := fun d L as1 st σ H st1 v r hv e Q q => by
    unfold putDat at e
    split at e
    · rename_i hl
      cases e
      exact q L as1 _ H (r.setDat (by rw [← r.len]; exact hl) hv) .refl
    · cases e
  have fin : ∀ v H1, (∃ L1 as2 st1 rv, Rel N L1 as2 st1 σ H1 ∧ VRel L1 as2 σ H1 v rv ∧ FinS N W L1 as2 H1 (match st1.esc rv with
      | some (.dat d, st') => (match seqOf d with
        | some ds => loopM (putDat i) m1 ds st'
        | none => .stuck)
      | _ => .stuck) D) → (∃ a, v = .ref a ∧ (∃ xs, SqL X.K H1 a xs) ∧ ∃ Wv : Nat → Nat → L2.St → Hp → Prop, (∃ m, Wv 0 m σ H1) ∧ ∀ k m σ H, Wv k m σ H →
        ((Itl X.K a).stop k H ∧ D.nx σ H) ∨ ((Itl X.K a).go k H ∧ ∃ Nx : L2.St → Hp → Prop, (∀ σ' H', Nx σ' H' → ∃ m', m' < m ∧ Wv (k + 1) m' σ' H') ∧ ∀ x H', (Itl X.K a).yld k H x H' → gName i x σ H' fun σ2 H2 => semS N W m1 { D with nx := Nx, ct := Nx, bk := D.nx } σ2 H2)) ∨
      (∃ a, v = .ref a ∧ (∃ xs, SqT X.K H1 a xs) ∧ ∃ Wv : Nat → Nat → L2.St → Hp → Prop, (∃ m, Wv 0 m σ H1) ∧ ∀ k m σ H, Wv k m σ H →
        ((Itt X.K a).stop k H ∧ D.nx σ H) ∨ ((Itt X.K a).go k H ∧ ∃ Nx : L2.St → Hp → Prop, (∀ σ' H', Nx σ' H' → ∃ m', m' < m ∧ Wv (k + 1) m' σ' H') ∧ ∀ x H', (Itt X.K a).yld k H x H' → gName i x σ H' fun σ2 H2 => semS N W m1 { D with nx := Nx, ct := Nx, bk := D.nx } σ2 H2)) := by
    rintro v H1 ⟨L1, as2, st1, rv, r1, v1, f1⟩
    cases e1 : st1.esc rv with
    | none => rw [e1] at f1; exact f1.elim
    | some pq =>
      obtain ⟨q, s4⟩ := pq
      rw [e1] at f1
      obtain ⟨L4, r4, x4, v4, n4⟩ := r1.esc v1 e1
      cases q with
      | bor j => exact absurd rfl (n4 j)
      | hdl j => exact f1.elim
      | dat d =>
        dsimp only at f1
        cases d with
        | list ds =>
          have f4 := FinS.from f1 x4
          cases v4 with
          | lst ha hs =>
            rename_i a vs
            refine .inl ⟨a, rfl, ⟨vs, SqL.of (mask_same _ _ ha)⟩, ?_⟩
            refine for_core (J := Itl X.K a) ds (fun L H => ∃ vs, mask H L a = some (.lst vs) ∧ Ats (mask H L) vs ds) (fun L H L' H' s ⟨vs, h1, h2⟩ => ⟨vs, s _ _ h1, h2.mono s⟩) ?_ ?_ ?_ r4 ⟨vs, ha, hs⟩ f4
            · rintro k L H hk ⟨vs, h1, h2⟩
              exact ⟨vs, vs[k]'(by rw [h2.length]; exact hk), SqL.of (mask_same _ _ h1), List.getElem?_eq_getElem _⟩
            · rintro L H ⟨vs, h1, h2⟩
              exact ⟨vs, SqL.of (mask_same _ _ h1), by rw [h2.length]; exact Nat.le_refl _⟩
            · rintro k d hk L as1 st σ H st1 r ⟨vs, h1, h2⟩ e x H' ⟨rfl, y⟩ Q q
              obtain ⟨v, g1, g2⟩ := h2.get hk
              have := y vs (SqL.of (mask_same _ _ h1))
              rw [g1] at this
              cases this
              exact hput d L as1 st σ _ st1 _ r g2 e Q q
        | tuple ds =>
          have f4 := FinS.from f1 x4
          cases v4 with
          | tup ha hs =>
            rename_i a vs
            refine .inr ⟨a, rfl, ⟨vs, SqT.of (mask_same _ _ ha)⟩, ?_⟩
            refine for_core (J := Itt X.K a) ds (fun L H => ∃ vs, mask H L a = some (.tup vs) ∧ Ats (mask H L) vs ds) (fun L H L' H' s ⟨vs, h1, h2⟩ => ⟨vs, s _ _ h1, h2.mono s⟩) ?_ ?_ ?_ r4 ⟨vs, ha, hs⟩ f4
            · rintro k L H hk ⟨vs, h1, h2⟩
              exact ⟨vs, vs[k]'(by rw [h2.length]; exact hk), SqT.of (mask_same _ _ h1), List.getElem?_eq_getElem _⟩
            · rintro L H ⟨vs, h1, h2⟩
              exact ⟨vs, SqT.of (mask_same _ _ h1), by rw [h2.length]; exact Nat.le_refl _⟩
            · rintro k d hk L as1 st σ H st1 r ⟨vs, h1, h2⟩ e x H' ⟨rfl, y⟩ Q q
              obtain ⟨v, g1, g2⟩ := h2.get hk
              have := y vs (SqT.of (mask_same _ _ h1))
              rw [g1] at this
              cases this
              exact hput d L as1 st σ _ st1 _ r g2 e Q q
        | none => exact f1.elim
        | bool b => exact f1.elim
        | int b => exact f1.elim
        | str b => exact f1.elim
        | dict b => exact f1.elim
  exact sem_mono key fin
/-! ### range -/
def rangeD (lo hi : Int) : List PyData := (List.range (hi - lo).toNat).map fun k => .int (lo + (k : Nat))
def in62 (i : Int) : Bool := Nat.ble i.natAbs 4611686018427387903
theorem in62_iff {i : Int} (h : in62 i = true) : -(2 ^ 62) ≤ i ∧ i < 2 ^ 62 := by
  have := Nat.le_of_ble_eq_true h
  exact ⟨by omega, by omega⟩
@[simp] def mForR1 (i : Nat) (mr : M (List RV)) (body : M Flw) (st0 : ST) : R Flw := (mr.bind fun rs => fun st => match lookAll st rs with
  | some [.int j] => if in62 j = true then loopM (putDat i) body (rangeD 0 j) st else .stuck
  | _ => .stuck) st0
@[simp] def mForR2 (i : Nat) (mr : M (List RV)) (body : M Flw) (st0 : ST) : R Flw := (mr.bind fun rs => fun st => match lookAll st rs with
  | some [.int k, .int j] => if (in62 k && in62 j) = true then loopM (putDat i) body (rangeD k j) st else .stuck
  | _ => .stuck) st0
theorem put_name {i : Nat} {d : PyData} {L : List Addr} {as1 : List (List Addr)} {st st1 : ST} {σ : L2.St} {H : Hp} {v : V} (r : Rel N L as1 st σ H) (hv : At (mask H L) v d) (e : putDat i d st = .ok .nx st1) {Q : L2.St → Hp → Prop}
    (q : ∀ L2 as2 σ2 H2, Rel N L2 as2 st1 σ2 H2 → Ext L as1 H L2 as2 H2 → Q σ2 H2) : gName i v σ H Q := by
  unfold putDat at e
  split at e
  · rename_i hl
    cases e
    exact q L as1 _ H (r.setDat (by rw [← r.len]; exact hl) hv) .refl
  · cases e
theorem range_core {i : Nat} {lo : Int} {n : Nat} {D : Ends} {σ : L2.St} {H : Hp} {L : List Addr} {as1 : List (List Addr)} {st : ST} (r : Rel N L as1 st σ H) (h : FinS N W L as1 H (loopM (putDat i) m1 ((List.range n).map fun k => PyData.int (lo + (k : Nat))) st) D) :
    ∃ Wv : Nat → Nat → L2.St → Hp → Prop, (∃ m, Wv 0 m σ H) ∧ ∀ k m σ H, Wv k m σ H →
      ((Itr lo n).stop k H ∧ D.nx σ H) ∨ ((Itr lo n).go k H ∧ ∃ Nx : L2.St → Hp → Prop, (∀ σ' H', Nx σ' H' → ∃ m', m' < m ∧ Wv (k + 1) m' σ' H') ∧ ∀ x H', (Itr lo n).yld k H x H' → gName i x σ H' fun σ2 H2 => semS N W m1 { D with nx := Nx, ct := Nx, bk := D.nx } σ2 H2) := by
  refine for_core (J := Itr lo n) _ (fun _ _ => True) (fun _ _ _ _ _ _ => trivial) (fun k L H hk _ => ?_) (fun L H _ => ?_) (fun k d hk L as1 st σ H st1 r _ e x H' y Q q => ?_) r trivial h
  · rw [List.length_map, List.length_range] at hk
    exact hk
  · rw [List.length_map, List.length_range]
    exact Nat.le_refl _
  · obtain ⟨rfl, rfl⟩ := y
    have hd : d = .int (lo + k) := by
      rw [List.getElem?_map] at hk
      have hk2 : k < n := by
        by_cases z : k < n
        · exact z
        · rw [List.getElem?_eq_none (by rw [List.length_range]; omega)] at hk
          cases hk
      rw [List.getElem?_range hk2] at hk
      cases hk
      rfl
    rw [hd] at e
    exact put_name r (.int _) e q
theorem js_forR1 {i : Nat} {x : Str} {px p ps : Pos} (hN : X.N.Nodup) (hp : PassesOwn (model X.prog X.w) X.A X.env X.xe) (hm : X.mg "range" = none) (ha : JA X N W [a] mr) (hb : JSs X N W ss m1) (hc : X.calm = true := by rfl) (hg : Gl X "range" := by rfl) (hi : X.N[i]? = some x := by rfl) (hx : Loc X.env.scope x := by first | exact Or.inl rfl | exact Or.inr rfl)
    (hf : X.fn x = true ∨ X.env.scope.names.lookup x = some .local := by first | exact .inl rfl | exact .inr rfl | assumption) (hs : starEach [a] X.env = [(false, eval a X.env)] := by rfl) (hfs : ∀ z, foldedSetIterable (.Call (.Name "range" p) [a] [] pos) X.env z = pure z := by intro _; rfl) :
    JS X N W (.For (.Name x px) (.Call (.Name "range" p) [a] [] pos) ss [] ps) (mForR1 i mr m1) := by
  refine PS.weak (ps_for hp hc (pi_range1 hg hm ha hs) (pg_name hN hi hx hf) hb hfs) fun D σ H ⟨L, as1, st, r, h⟩ => ?_
  refine sem_mono (finS_bind (P1 := VRels) r h) fun vs H1 ⟨L3, as3, s3, rs, r3, v3, f3⟩ => ?_
  cases e1 : lookAll s3 rs with
  | none => rw [e1] at f3; exact f3.elim
  | some ds =>
    rw [e1] at f3
    have pr := r3.lookAll v3 e1
    split at f3
    · rename_i j ej
      cases ej
      split at f3
      · rename_i hj
        obtain ⟨v, rfl, hv⟩ := Paired.one pr
        cases hv.int
        obtain ⟨b1, b2⟩ := in62_iff hj
        refine ⟨j, rfl, b1, b2, range_core r3 ?_⟩
        have e0 : (j - 0).toNat = j.toNat := by rw [Int.sub_zero]
        unfold rangeD at f3
        rw [e0] at f3
        exact f3
      · exact f3.elim
    · exact f3.elim
theorem js_forR2 {i : Nat} {x : Str} {px p ps : Pos} (hN : X.N.Nodup) (hp : PassesOwn (model X.prog X.w) X.A X.env X.xe) (hm : X.mg "range" = none) (ha : JA X N W [a, b] mr) (hb : JSs X N W ss m1) (hc : X.calm = true := by rfl) (hg : Gl X "range" := by rfl) (hi : X.N[i]? = some x := by rfl) (hx : Loc X.env.scope x := by first | exact Or.inl rfl | exact Or.inr rfl)
    (hf : X.fn x = true ∨ X.env.scope.names.lookup x = some .local := by first | exact .inl rfl | exact .inr rfl | assumption) (hs : starEach [a, b] X.env = [(false, eval a X.env), (false, eval b X.env)] := by rfl) (hs2 : starEach [b] X.env = [(false, eval b X.env)] := by rfl) (hfs : ∀ z, foldedSetIterable (.Call (.Name "range" p) [a, b] [] pos) X.env z = pure z := by intro _; rfl) :
    JS X N W (.For (.Name x px) (.Call (.Name "range" p) [a, b] [] pos) ss [] ps) (mForR2 i mr m1) := by
  refine PS.weak (ps_for hp hc (pi_range2 hg hm ha hs hs2) (pg_name hN hi hx hf) hb hfs) fun D σ H ⟨L, as1, st, r, h⟩ => ?_
  refine sem_mono (finS_bind (P1 := VRels) r h) fun vs H1 ⟨L3, as3, s3, rs, r3, v3, f3⟩ => ?_
  cases e1 : lookAll s3 rs with
  | none => rw [e1] at f3; exact f3.elim
  | some ds =>
    rw [e1] at f3
    have pr := r3.lookAll v3 e1
    split at f3
    · rename_i k j ej
      cases ej
      split at f3
      · rename_i hj
        obtain ⟨v, w, rfl, hv, hw⟩ := Paired.two pr
        cases hv.int
        cases hw.int
        obtain ⟨hk, hj⟩ := Bool.and_eq_true_iff.mp hj
        obtain ⟨b1, b2⟩ := in62_iff hj
        obtain ⟨b3, b4⟩ := in62_iff hk
        exact ⟨k, j, rfl, ⟨b3, b4, b1, b2⟩, range_core r3 f3⟩
      · exact f3.elim
    · exact f3.elim

/-! ### while -/
def mWhile (mt : M Bool) (mb : M Flw) : Nat → M Flw
  | 0 => fun _ => .stuck
  | n + 1 => mt.bind fun c => if c = true then (fun st => match mb st with
      | .ok .nx st1 => mWhile mt mb n st1
      | .ok .cnt st1 => mWhile mt mb n st1
      | .ok .brk st1 => .ok .nx st1
      | .ok (.ret v) st1 => .ok (.ret v) st1
      | .exc c st1 => .exc c st1
      | .stuck => .stuck) else mNx
theorem js_while {n : Nat} (hp : PassesOwn (model X.prog X.w) X.A X.env X.xe) (hc : JT X N W c mt) (hb : JSs X N W ss m1) : JS X N W (.While c ss [] pos) (mWhile mt m1 n) := by
  refine PS.weak (ps_while hp hc hb) fun D σ H ⟨L, as1, st, r, h⟩ => ?_
  refine ⟨fun m σ H => ∃ L as1 st, Rel N L as1 st σ H ∧ FinS N W L as1 H (mWhile mt m1 m st) D, ⟨n, L, as1, st, r, h⟩, ?_⟩
  rintro m σ H ⟨L, as1, st, r, h⟩
  cases m with
  | zero => exact h.elim
  | succ m =>
    refine sem_mono (finS_bind (P1 := pB) r h) fun v H1 ⟨L3, as3, s3, b3, r3, v3, f3⟩ => ?_
    cases v3
    cases v with
    | false => exact iteF (f3 L3 as3 σ H1 r3 .refl)
    | true =>
      refine iteT ⟨fun σ' H' => ∃ L as1 st, Rel N L as1 st σ' H' ∧ FinS N W L as1 H' (mWhile mt m1 m st) D, fun σ' H' q => ⟨m, Nat.lt_succ_self m, q⟩, L3, as3, s3, r3, ?_⟩
      simp only [if_true] at f3
      cases e2 : m1 s3 with
      | stuck => rw [e2] at f3; exact f3
      | exc c s2 => rw [e2] at f3; exact f3
      | ok fl s2 =>
        rw [e2] at f3
        cases fl with
        | ret v => exact f3
        | nx => exact fun L4 as4 σ4 H4 r4 x4 => ⟨L4, as4, s2, r4, FinS.from f3 x4⟩
        | cnt => exact fun L4 as4 σ4 H4 r4 x4 => ⟨L4, as4, s2, r4, FinS.from f3 x4⟩
        | brk => exact f3
end

/-! ### own lists: made, changed -/
section
variable {N : Ent} {W : WX} {L : List Addr} {as1 : List (List Addr)} {st : ST} {σ : L2.St} {H H' : Hp} {i : Nat}
theorem Rel.inL (r : Rel N L as1 st σ H) {p : Addr} (hp : p ∈ as1.flatten) : p ∈ L := by
  obtain ⟨fp, h1, h2⟩ := List.mem_flatten.mp hp
  exact r.g.gin fp h1 p h2
theorem Rel.fresh0 (r : Rel N L as1 st σ H) {p : Addr} (np : H p = none) : N.H0 p = none := by
  cases e : N.H0 p with
  | none => rfl
  | some o =>
    by_cases m : p ∈ N.as0.flatten
    · exact absurd np (r.live p (r.sub p (r.ent p m)))
    · rw [r.frame p o e m] at np; cases np
theorem same_guard {p : Addr} {o : HO} (np : H p = none) : Same (mask H L) (mask (upd H p o) (p :: L)) := fun b u h => by
  obtain ⟨e, n⟩ := of_mask h
  have nb : b ≠ p := ne_of_none e np
  refine mask_of (by rw [upd_ne nb]; exact e) fun z => ?_
  rcases List.mem_cons.mp z with z | z
  · exact nb z
  · exact n z
/-- a new object that is kept apart -/
theorem Rel.guard (r : Rel N L as1 st σ H) {p : Addr} {o : HO} (np : H p = none) (ho : ∀ vs, o ≠ .tup vs) : Rel N (p :: L) as1 st σ (upd H p o) where
  len := r.len
  l0 := r.l0
  sub := fun b hb => List.mem_cons_of_mem _ (r.sub b hb)
  new := fun b hb => by
    rcases List.mem_cons.mp hb with rfl | hb
    · exact .inr (r.fresh0 np)
    · exact r.new b hb
  live := fun b hb => by
    by_cases e : b = p
    · subst e; rw [upd_same]; exact fun z => nomatch z
    · rw [upd_ne e]
      rcases List.mem_cons.mp hb with z | hb
      · exact absurd z e
      · exact r.live b hb
  frame := fun q u h n => same_new np _ _ (r.frame q u h n)
  dat := fun j d e => by
    obtain ⟨v, q, h⟩ := r.dat j d e
    exact ⟨v, q, h.mono (same_guard np)⟩
  own := fun j ds e => by
    obtain ⟨a, vs, q, h, hs, m, n, o'⟩ := r.own j ds e
    exact ⟨a, vs, q, same_new np _ _ h, hs.mono (same_guard np), List.mem_cons_of_mem _ m, n, o'⟩
  owd := r.owd
  hdl := r.hdl
  g := r.g.mono (same_guard np) (fun _ _ _ _ _ e => same_new np _ _ e) fun fp h b hb => List.mem_cons_of_mem _ (r.g.gin fp h b hb)
  gnew := r.gnew
  hd := r.hd
  nt := fun b hb vs => by
    by_cases e : b = p
    · subst e
      rw [upd_same]
      exact fun z => ho vs (Option.some.inj z)
    · rw [upd_ne e]
      rcases List.mem_cons.mp hb with z | hb
      · exact absurd z e
      · exact r.nt b hb vs
  ent := r.ent
/-- a fresh list comes to a slot, as its own -/
theorem Rel.setOwn (r : Rel N L as1 st σ H) {p : Addr} {vs : List V} {ds : List PyData} (hi : i < σ.length) (np : H p = none) (ha : Ats (mask H L) vs ds) :
    Rel N (p :: L) as1 { st with sl := st.sl.set i (.own ds) } (σ.set i (some (.ref p))) (upd H p (.lst vs)) := by
  refine (((r.guard (o := .lst vs) np (fun _ z => nomatch z)).forget i).poke (some (.ref p))).name ⟨p, vs, List.getElem?_set_self hi, upd_same, ha.mono (same_guard np), List.mem_cons_self, r.fresh0 np, fun z => absurd np (r.live p (r.inL z)), fun j es n e z => ?_⟩
  rw [List.getElem?_set_ne (Ne.symm n)] at z
  obtain ⟨b, ws, q, h, _⟩ := r.own j es e
  rw [q] at z
  cases z
  rw [np] at h
  cases h
theorem same_mut {p : Addr} {o : HO} (m : p ∈ L) : Same (mask (upd H p o) L) (mask H L) := fun b u h => by
  obtain ⟨e, n⟩ := of_mask h
  rw [upd_ne (fun z : b = p => n (by rw [z]; exact m))] at e
  exact mask_of e n
/-- an own list is changed -/
theorem Rel.mutate (r : Rel N L as1 st σ H) {ds ds' : List PyData} {p : Addr} {vs' : List V} (e : st.sl[i]? = some (.own ds)) (hp : σ[i]? = some (some (.ref p))) (ha : Ats (mask H L) vs' ds') :
    Rel N L as1 { st with sl := st.sl.set i (.own ds') } σ (upd H p (.lst vs')) ∧ Ext L as1 H L as1 (upd H p (.lst vs')) := by
  obtain ⟨q, vs, e1, h1, h2, h3, h4, h5⟩ := r.own i ds e
  rw [hp] at e1
  cases e1
  have sm : Same (mask H L) (mask (upd H p (.lst vs')) L) := mask_upd h3
  have r1 : Rel N L as1 { st with sl := st.sl.set i .un } σ (upd H p (.lst vs')) := {
    len := by rw [List.length_set]; exact r.len
    l0 := r.l0
    sub := r.sub
    new := r.new
    live := fun b hb => by
      by_cases z : b = p
      · subst z; rw [upd_same]; exact fun z => nomatch z
      · rw [upd_ne z]; exact r.live b hb
    frame := fun b u hu n => by
      have : b ≠ p := fun z => by
        rw [z, h4] at hu; cases hu
      rw [upd_ne this]
      exact r.frame b u hu n
    dat := fun j d ej => by
      rcases set_get ej with ⟨_, z, _⟩ | ⟨_, ej⟩
      · cases z
      · obtain ⟨v, q1, q2⟩ := r.dat j d ej
        exact ⟨v, q1, q2.mono sm⟩
    own := fun j es ej => by
      rcases set_get ej with ⟨_, z, _⟩ | ⟨n, ej⟩
      · cases z
      · obtain ⟨b, ws, q1, q2, q3, q4, q5, q6⟩ := r.own j es ej
        have : b ≠ p := fun z => r.owd j i es ds n ej e (by rw [q1, hp, z])
        exact ⟨b, ws, q1, by rw [upd_ne this]; exact q2, q3.mono sm, q4, q5, q6⟩
    owd := (r.forget i).owd
    hdl := (r.forget i).hdl
    g := r.g.mono sm (fun fp hfp b hb o ho => by
      have : b ≠ p := fun z => h5 (by rw [← z]; exact List.mem_flatten.mpr ⟨fp, hfp, hb⟩)
      rw [upd_ne this]
      exact ho) r.g.gin
    gnew := r.gnew
    hd := r.hd
    nt := fun b hb ws => by
      by_cases z : b = p
      · subst z; rw [upd_same]; exact fun z => nomatch z
      · rw [upd_ne z]; exact r.nt b hb ws
    ent := r.ent }
  refine ⟨r1.name ⟨p, vs', hp, upd_same, ha.mono sm, h3, h4, h5, fun j es n ej z => ?_⟩, sm, .refl⟩
  exact r.owd j i es ds n ej e (by rw [z, hp])
end
end JL
/-! J6: lists that are changed, several targets. -/
namespace JL
open PySem PySem.Spec PyProof.Rows L2

section
variable {X : Cx} {N : Ent} {W : WX} {e a b c : Expr} {es : List Expr} {ma mb mc : M RV} {mt mu : M Bool} {mr : M (List RV)} {pos : Pos} {s : Stmt} {ss : List Stmt} {m1 m2 : M Flw}
/-- x = [..]: the slot's own list -/
@[simp] def mSetL (i : Nat) (mr : M (List RV)) (st0 : ST) : R Flw := (mr.bind fun r => fun st => match escAll r st with
  | some (q, st') => (match datAll q with
    | some ds => if ds.length ≤ 1000 ∧ i < st'.sl.length then .ok .nx { st' with sl := st'.sl.set i (.own ds) } else .stuck
    | none => .stuck)
  | none => .stuck) st0
theorem fin_setL {i : Nat} {D : Ends} {L : List Addr} {as1 : List (List Addr)} {st : ST} {σ : L2.St} {H : Hp} {vs : List V} {rs : List RV} (rel : Rel N L as1 st σ H) (hv : VRels L as1 σ H vs rs) (h : FinS N W L as1 H (match escAll rs st with
    | some (q, st') => (match datAll q with
      | some ds => if ds.length ≤ 1000 ∧ i < st'.sl.length then .ok .nx { st' with sl := st'.sl.set i (.own ds) } else .stuck
      | none => .stuck)
    | none => .stuck) D) : vs.length ≤ 1000 ∧ ∀ p, H p = none → D.nx (σ.set i (some (.ref p))) (upd H p (.lst vs)) := by
  cases e1 : escAll rs st with
  | none => rw [e1] at h; exact h.elim
  | some pq =>
    obtain ⟨q, st'⟩ := pq
    rw [e1] at h
    obtain ⟨L', r', x', v', n'⟩ := Rel.escAll rel hv e1
    dsimp only at h
    cases e2 : datAll q with
    | none => rw [e2] at h; exact h.elim
    | some ds =>
      rw [e2] at h
      dsimp only at h
      have ha := VRels.dats v' e2
      by_cases hl : ds.length ≤ 1000 ∧ i < st'.sl.length
      · rw [if_pos hl] at h
        refine ⟨by rw [ha.length]; exact hl.1, fun p np => ?_⟩
        refine h (p :: L') as1 _ _ (r'.setOwn (by rw [← r'.len]; exact hl.2) np ha) (x'.trans ⟨same_guard np, .refl⟩)
      · rw [if_neg hl] at h; exact h.elim
theorem js_setL {i : Nat} {x : Str} {pos' ps : Pos} (hN : X.N.Nodup) (ha : JA X N W es mr) (hi : X.N[i]? = some x := by rfl) (hx : Loc X.env.scope x := by first | exact Or.inl rfl | exact Or.inr rfl) (hs : swapsWith (.List es ps) (some (.Name x pos')) pos.line X.env = pure false := by rfl) (hf : X.fn x = true ∨ X.env.scope.names.lookup x = some .local := by first | exact .inl rfl | exact .inr rfl | assumption) :
    JS X N W (.Assign [.Name x pos'] (.List es ps) pos) (mSetL i mr) := by
  refine PS.weak (ps_set hN hi hx (pe_lst ha) hs hf) fun D σ H ⟨L, as1, st, r, h⟩ => ?_
  refine sem_mono (finS_bind (P1 := VRels) r h) fun vs H1 ⟨L3, as3, s3, rs, r3, v3, f3⟩ => ?_
  obtain ⟨q1, q2⟩ := fin_setL r3 v3 f3
  exact ⟨Nat.le_of_lt (small1000 q1), q2⟩
/-- x.append(e) -/
@[simp] def mAppend (i : Nat) (mr : M (List RV)) (st : ST) : R RV := match st.sl[i]? with
  | some (.own _) => (mr.bind fun r => fun st => match escAll r st with
    | some ([.dat d], st') => (match st'.sl[i]? with
      | some (.own ds) => if ds.length < maxLen then .ok (.dat .none) { st' with sl := st'.sl.set i (.own (ds ++ [d])) } else .stuck
      | _ => .stuck)
    | _ => .stuck) st
  | _ => .stuck
theorem je_append {i : Nat} {x : Str} {px apos cpos : Pos} (ha : JA X N W [e] mr) (hN : X.N[i]? = some x := by rfl) (hv : Vis X.env.scope x := by first | exact Or.inl rfl | exact Or.inr (Or.inl rfl) | exact Or.inr (Or.inr rfl)) (hd : (x == ("__debug__" : Str)) = false := by decide)
    (hcd : (x == ("__classdict__" : Str)) = false := by decide) (hbase : attributeBase (.Name x px) "append" X.env (eval (.Name x px) X.env) = eval (.Name x px) X.env := by rfl)
    (hfew : ((backTo cpos (starEach [e] X.env)).all (fun x => !x.1) && (backToKw cpos (keywordEach [] X.env)).all (fun x => x.1.isSome) && decide ([e].length + ([] : List Keyword).length + (if ([] : List Keyword).isEmpty then 0 else 1) < 30)) = true := by rfl)
    (hline : (apos.endLine == cpos.line) = true := by rfl) (hs : starEach [e] X.env = (false, eval e X.env) :: starEach [] X.env := by rfl) (hpl : (backTo cpos (starEach [] X.env)).any (·.1) = false := by rfl) :
    JE X N W (.Call (.Attribute (.Name x px) "append" apos) [e] [] cpos) (mAppend i mr) := by
  refine PE.weak (pe_bm PySem.F.plainAttrs_list PySem.F.slot_list_append PySem.F.type_list_append mt_append (pe_var hN hv hd hcd) ha hbase hfew hline hs hpl) fun σ H Q ⟨L, as1, st, rel, h⟩ => ?_
  unfold mAppend at h
  cases q : st.sl[i]? with
  | none => rw [q] at h; exact h.elim
  | some sv =>
    rw [q] at h
    cases sv with
    | un => exact h.elim
    | dat d => exact h.elim
    | hdl j => exact h.elim
    | own ds0 =>
      obtain ⟨p, vs0, hp, hH, _⟩ := rel.own i ds0 q
      refine ⟨_, hp, .inl ⟨rfl, _, SqL.of hH⟩, ?_⟩
      refine sem_mono (fin_bind (P1 := VRels) rel h) fun vs H1 ⟨L3, as3, s3, rs, r3, v3, x3, f3⟩ => ?_
      cases e1 : escAll rs s3 with
      | none => rw [e1] at f3; exact f3.elim
      | some pq =>
        obtain ⟨qs, s4⟩ := pq
        rw [e1] at f3
        obtain ⟨L4, r4, x4, v4, n4⟩ := Rel.escAll r3 v3 e1
        split at f3
        · rename_i d st' ez
          cases ez
          split at f3
          · rename_i ds e2
            split at f3
            · rename_i hl
              cases v4 with
              | cons h1 t1 =>
                cases t1
                obtain ⟨p2, ws, hp2, hH2, hs2, _⟩ := r4.own i ds e2
                rw [hp] at hp2
                cases hp2
                refine ⟨p, ws, _, rfl, rfl, hH2, ?_, ?_⟩
                · have := hs2.length
                  have hm : maxLen ≤ sizeLine := by decide
                  omega
                · obtain ⟨r5, x5⟩ := r4.mutate e2 hp (hs2.append (Ats.one h1))
                  exact f3 L4 as3 _ _ r5 .non (x4.trans x5)
            · exact f3.elim
          · exact f3.elim
        · exact f3.elim
/-- x.pop() -/
@[simp] def mPop (i : Nat) (st : ST) : R RV := match st.sl[i]? with
  | some (.own ds) => (match ds[ds.length - 1]? with
    | some d => .ok (.dat d) { st with sl := st.sl.set i (.own ds.dropLast) }
    | none => .stuck)
  | _ => .stuck
theorem Ats.dropLast {H : Hp} {vs : List V} {ds : List PyData} (h : Ats H vs ds) : Ats H vs.dropLast ds.dropLast := by
  rw [List.dropLast_eq_take, List.dropLast_eq_take, h.length]
  exact h.take _
theorem je_pop {i : Nat} {x : Str} {px apos cpos : Pos} (hN : X.N[i]? = some x := by rfl) (hv : Vis X.env.scope x := by first | exact Or.inl rfl | exact Or.inr (Or.inl rfl) | exact Or.inr (Or.inr rfl)) (hd : (x == ("__debug__" : Str)) = false := by decide)
    (hcd : (x == ("__classdict__" : Str)) = false := by decide) (hbase : attributeBase (.Name x px) "pop" X.env (eval (.Name x px) X.env) = eval (.Name x px) X.env := by rfl)
    (hline : (apos.endLine == cpos.line) = true := by rfl) :
    JE X N W (.Call (.Attribute (.Name x px) "pop" apos) [] [] cpos) (mPop i) := by
  refine PE.weak (pe_bm0 PySem.F.plainAttrs_list PySem.F.slot_list_pop PySem.F.type_list_pop mt_pop (pe_var hN hv hd hcd) hbase hline) fun σ H Q ⟨L, as1, st, rel, h⟩ => ?_
  unfold mPop at h
  cases q : st.sl[i]? with
  | none => rw [q] at h; exact h.elim
  | some sv =>
    rw [q] at h
    cases sv with
    | un => exact h.elim
    | dat d => exact h.elim
    | hdl j => exact h.elim
    | own ds =>
      obtain ⟨p, vs, hp, hH, hs, _⟩ := rel.own i ds q
      dsimp only at h
      cases q2 : ds[ds.length - 1]? with
      | none => rw [q2] at h; exact h.elim
      | some d =>
        rw [q2] at h
        obtain ⟨v, g1, g2⟩ := hs.get q2
        obtain ⟨r5, x5⟩ := rel.mutate q hp hs.dropLast
        refine ⟨_, hp, .inl ⟨rfl, _, SqL.of hH⟩, p, vs, v, rfl, rfl, hH, by rw [hs.length]; exact g1, ?_⟩
        exact h L as1 v _ r5 (g2.mono x5.dat) x5
/-- x += e, x -= e, x *= e -/
@[simp] def mAug (f : PyData → PyData → Option PyData) (i : Nat) (me : M RV) (st : ST) : R Flw := match st.sl[i]? with
  | some (.dat d) => (me.bind fun r => fun st => match (st.look r).bind fun e => f d e with
    | some g => if i < st.sl.length then .ok .nx { st with sl := st.sl.set i (.dat g) } else .stuck
    | none => .stuck) st
  | _ => .stuck
theorem js_aug {op : Operator} {r : R2} {f : PyData → PyData → Option PyData} {i : Nat} {x : Str} {pos' : Pos} (ho : OpR X (inplaceOp op) r) (p : Pure2 r f) (hN : X.N.Nodup) (he : JE X N W e ma) (hi : X.N[i]? = some x := by rfl) (hx : Loc X.env.scope x := by first | exact Or.inl rfl | exact Or.inr rfl)
    (hf : X.fn x = true ∨ X.env.scope.names.lookup x = some .local := by first | exact .inl rfl | exact .inr rfl | assumption) : JS X N W (.AugAssign (.Name x pos') op e pos) (mAug f i ma) := by
  refine PS.weak (ps_aug hN hi hx he ho hf) fun D σ H ⟨L, as1, st, rel, h⟩ => ?_
  unfold mAug at h
  cases q : st.sl[i]? with
  | none => rw [q] at h; exact h.elim
  | some sv =>
    rw [q] at h
    cases sv with
    | un => exact h.elim
    | own d => exact h.elim
    | hdl j => exact h.elim
    | dat d =>
      obtain ⟨v0, hv0, ha0⟩ := rel.dat i d q
      refine ⟨v0, hv0, ?_⟩
      refine sem_mono (finS_bindX (P1 := VRel) rel h) fun v H1 ⟨L3, as3, s3, rv, r3, v3, x3, f3⟩ => ?_
      cases e1 : s3.look rv with
      | none => rw [e1] at f3; exact f3.elim
      | some d2 =>
        rw [e1] at f3
        cases e2 : f d d2 with
        | none =>
          have : ((some d2).bind fun e => f d e) = none := e2
          rw [this] at f3; exact f3.elim
        | some g =>
          have : ((some d2).bind fun e => f d e) = some g := e2
          rw [this] at f3
          dsimp only at f3
          by_cases hl : i < s3.sl.length
          · rw [if_pos hl] at f3
            exact p v0 v H1 L3 _ d d2 g r3.live (.at (ha0.mono x3.dat)) (r3.look v3 e1) e2 fun z H' sm ag => f3 L3 as3 _ H' ((r3.grow sm).setDat (by rw [← r3.len]; exact hl) ag) (Ext.grow sm)
          · rw [if_neg hl] at f3; exact f3.elim
/-- x += a list, x a slot's own -/
@[simp] def mExt (i : Nat) (me : M RV) (st : ST) : R Flw := match st.sl[i]? with
  | some (.own _) => (me.bind fun r => fun st => match st.sl[i]?, st.look r with
    | some (.own ds), some (.list es) => if ds.length + es.length ≤ maxLen then .ok .nx { st with sl := st.sl.set i (.own (ds ++ es)) } else .stuck
    | _, _ => .stuck) st
  | _ => .stuck
theorem js_ext {i : Nat} {x : Str} {pos' : Pos} (hN : X.N.Nodup) (he : JE X N W e ma) (hi : X.N[i]? = some x := by rfl) (hx : Loc X.env.scope x := by first | exact Or.inl rfl | exact Or.inr rfl)
    (hf : X.fn x = true ∨ X.env.scope.names.lookup x = some .local := by first | exact .inl rfl | exact .inr rfl | assumption) : JS X N W (.AugAssign (.Name x pos') .Add e pos) (mExt i ma) := by
  refine PS.weak (ps_aug hN hi hx he iop_ext hf) fun D σ H ⟨L, as1, st, rel, h⟩ => ?_
  unfold mExt at h
  cases q : st.sl[i]? with
  | none => rw [q] at h; exact h.elim
  | some sv =>
    rw [q] at h
    cases sv with
    | un => exact h.elim
    | dat d => exact h.elim
    | hdl j => exact h.elim
    | own ds0 =>
      obtain ⟨p, vs0, hp, hH, _⟩ := rel.own i ds0 q
      refine ⟨_, hp, ?_⟩
      refine sem_mono (finS_bindX (P1 := VRel) rel h) fun v H1 ⟨L3, as3, s3, rv, r3, v3, x3, f3⟩ => ?_
      split at f3
      · rename_i ds es e1 e2
        split at f3
        · rename_i hl
          obtain ⟨p2, ws, hp2, hH2, hs2, _⟩ := r3.own i ds e1
          rw [hp] at hp2
          cases hp2
          obtain ⟨b, zs, rfl, hb, hbs⟩ := (r3.look v3 e2).list
          obtain ⟨r5, x5⟩ := r3.mutate e1 hp (hs2.append hbs)
          refine ⟨p, b, ws, zs, rfl, rfl, hH2, hb, small_max (by rw [hs2.length, hbs.length]; exact hl), ?_⟩
          have es' : σ.set i (some (V.ref p)) = σ := by
            have hlt : i < σ.length := (List.getElem?_eq_some_iff.mp hp).1
            have hget : σ[i] = some (V.ref p) := (List.getElem?_eq_some_iff.mp hp).2
            rw [← hget]
            exact List.set_getElem_self hlt
          show D.nx (List.set σ i (some (V.ref p))) _
          rw [es']
          exact f3 L3 as3 σ _ r5 x5
        · exact f3.elim
      · exact f3.elim
/-! ### several targets -/
def gAll : List Nat → TGs
  | [] => gNil
  | i :: r => gCons (gName i) (gAll r)
@[simp] def putAll : List Nat → List PyData → List SV → List SV
  | i :: is, d :: ds, sl => putAll is ds (sl.set i (.dat d))
  | _, _, sl => sl
/-- a, b = e -/
@[simp] def mUnpack (is : List Nat) (n : Nat) (me : M RV) (st0 : ST) : R Flw := (me.bind fun r => fun st => match st.look r with
  | some (.tuple ds) => if ds.length = is.length ∧ is.all (fun i => decide (i < st.sl.length)) = true then .ok .nx { st with sl := putAll is ds st.sl } else .stuck
  | _ => .stuck) st0
theorem put_all {H : Hp} {L : List Addr} {as1 : List (List Addr)} {Q : L2.St → Hp → Prop} : ∀ (is : List Nat) (vs : List V) (ds : List PyData) (st : ST) (σ : L2.St), Rel N L as1 st σ H → Ats (mask H L) vs ds → ds.length = is.length → (∀ i ∈ is, i < st.sl.length) →
    (∀ σ', Rel N L as1 { st with sl := putAll is ds st.sl } σ' H → Q σ' H) → gAll is vs σ H Q
  | [], _, _, st, σ, r, .nil, _, _, q => ⟨rfl, q σ r⟩
  | i :: is, _, _, st, σ, r, .cons (v := v) (vs := vs) (d := d) (ds := ds) h t, hl, hi, q => by
    refine ⟨v, vs, rfl, ?_⟩
    have r1 := r.setDat (i := i) (by rw [← r.len]; exact hi i List.mem_cons_self) h
    refine put_all is vs ds { st with sl := st.sl.set i (.dat d) } _ r1 t (by rw [List.length_cons, List.length_cons] at hl; omega) (fun j hj => ?_) q
    rw [List.length_set]
    exact hi j (List.mem_cons_of_mem _ hj)
theorem js_unpack {tgs : List Expr} {k : Nat} {is : List Nat} {n : Nat} {pt : Pos} (hg : PGs X tgs (gAll is)) (he : JE X N W e ma) (hc : X.calm = true := by rfl) (hn : (assignEach tgs X.env).length = n := by rfl) (hst : (assignEach tgs X.env).findIdx? (·.1) = none := by rfl)
    (hs : swapsWithSole [.Tuple tgs k pt] e pos.line X.env = pure false := by rfl) (hw : swappedStores [.Tuple tgs k pt] e X.env = pure none := by rfl) (h1 : (assignEach [.Tuple tgs k pt] X.env).map (·.2) = [assign (.Tuple tgs k pt) X.env] := by rfl) (hni : is.length = n := by rfl) :
    JS X N W (.Assign [.Tuple tgs k pt] e pos) (mUnpack is n ma) := by
  refine PS.weak (ps_asg he (pg_tup hc hg hn hst) hs hw h1) fun D σ H ⟨L, as1, st, rel, h⟩ => ?_
  refine sem_mono (finS_bindX (P1 := VRel) rel h) fun v H1 ⟨L3, as3, s3, rv, r3, v3, x3, f3⟩ => ?_
  split at f3
  · rename_i ds e1
    split at f3
    · rename_i hl
      obtain ⟨b, vs, rfl, hb, hbs⟩ := (r3.look v3 e1).tuple
      refine ⟨b, vs, rfl, SqT.of hb, by rw [hbs.length, hl.1, hni], ?_⟩
      refine put_all is vs ds s3 σ r3 hbs hl.1 (fun i hi => ?_) fun σ' r' => f3 L3 as3 σ' H1 r' .refl
      have := List.all_eq_true.mp hl.2 i hi
      simpa using this
    · exact f3.elim
  · exact f3.elim
theorem pgs_cons' {i : Nat} {is : List Nat} {x : Str} {px : Pos} {tgs : List Expr} (hN : X.N.Nodup) (h : PGs X tgs (gAll is)) (hi : X.N[i]? = some x := by rfl) (hx : Loc X.env.scope x := by first | exact Or.inl rfl | exact Or.inr rfl)
    (hf : X.fn x = true ∨ X.env.scope.names.lookup x = some .local := by first | exact .inl rfl | exact .inr rfl | assumption) (hs : (assignEach (.Name x px :: tgs) X.env).map (·.2) = assign (.Name x px) X.env :: (assignEach tgs X.env).map (·.2) := by rfl) : PGs X (.Name x px :: tgs) (gAll (i :: is)) :=
  pgs_cons (pg_name hN hi hx hf) h hs
/-- a, b = e1, e2 -/
@[simp] def setV (i : Nat) (st : ST) : RV → Option ST
  | .dat d => if i < st.sl.length then some { st with sl := st.sl.set i (.dat d) } else none
  | .hdl j => if i < st.sl.length then some { st with sl := st.sl.set i (.hdl j) } else none
  | .bor _ => none
@[simp] def mPar (i j : Nat) (mr : M (List RV)) (st0 : ST) : R Flw := (mr.bind fun r => fun st => match escAll r st with
  | some ([x, y], st') => (match (setV i st' x).bind fun s => setV j s y with
    | some s => .ok .nx s
    | none => .stuck)
  | _ => .stuck) st0
theorem Rel.setV {L : List Addr} {as1 : List (List Addr)} {st st1 : ST} {σ : L2.St} {H : Hp} {i : Nat} {v : V} {rv : RV} (r : Rel N L as1 st σ H) (h : VRel L as1 [] H v rv) (e : JL.setV i st rv = some st1) : Rel N L as1 st1 (σ.set i (some v)) H := by
  cases rv with
  | bor k => cases e
  | dat d =>
    simp only [JL.setV] at e
    split at e
    · rename_i hl
      cases e
      exact r.setDat (by rw [← r.len]; exact hl) h
    · cases e
  | hdl k =>
    simp only [JL.setV] at e
    split at e
    · rename_i hl
      cases e
      obtain ⟨w, fp, h1, rfl⟩ := h
      exact r.setHdl (by rw [← r.len]; exact hl) h1
    · cases e
theorem js_par {i j : Nat} {x y : Str} {px py pt pt2 : Pos} {kt k2 : Nat} (hN : X.N.Nodup) (ha : JA X N W [a, b] mr) (hw : swappedStores [.Tuple [.Name x px, .Name y py] kt pt] (.Tuple [a, b] k2 pt2) X.env = pure (some [x, y]) := by rfl) (hc : X.calm = true := by rfl) (hi : X.N[i]? = some x := by rfl) (hj : X.N[j]? = some y := by rfl) (hij : i ≠ j := by decide)
    (hx : X.env.scope.names.lookup x = some .local := by rfl) (hy : X.env.scope.names.lookup y = some .local := by rfl) (hs : swapsWithSole [.Tuple [.Name x px, .Name y py] kt pt] (.Tuple [a, b] k2 pt2) pos.line X.env = pure false := by rfl) :
    JS X N W (.Assign [.Tuple [.Name x px, .Name y py] kt pt] (.Tuple [a, b] k2 pt2) pos) (mPar i j mr) := by
  refine PS.weak (ps_par hc hN hi hj hij hx hy ha hw hs) fun D σ H ⟨L, as1, st, rel, h⟩ => ?_
  refine sem_mono (finS_bindX (P1 := VRels) rel h) fun vs H1 ⟨L3, as3, s3, rs, r3, v3, x3, f3⟩ => ?_
  cases e1 : escAll rs s3 with
  | none => rw [e1] at f3; exact f3.elim
  | some pq =>
    obtain ⟨qs, s4⟩ := pq
    rw [e1] at f3
    obtain ⟨L4, r4, x4, v4, n4⟩ := Rel.escAll r3 v3 e1
    have v5 := v4.bare n4
    split at f3
    · rename_i p q st' ez
      cases ez
      cases v5 with
      | cons h1 t1 =>
        cases t1 with
        | cons h2 t2 =>
          cases t2
          refine ⟨_, _, rfl, ?_⟩
          cases e2 : setV i s4 p with
          | none => rw [e2] at f3; exact f3.elim
          | some s5 =>
            rw [e2] at f3
            simp only [Option.bind_some] at f3
            cases e3 : setV j s5 q with
            | none => rw [e3] at f3; exact f3.elim
            | some s6 =>
              rw [e3] at f3
              have r5 := r4.setV h1 e2
              have r6 := r5.setV h2 e3
              exact f3 L4 as3 _ H1 r6 x4
    · exact f3.elim
end
end JL
/-! J7: comprehensions. -/
namespace JL
open PySem PySem.Spec PyProof.Rows L2

theorem nodup_flatten_apart {α : Type} : ∀ {l : List (List α)} {j k : Nat} {f g : List α} {b : α}, l.flatten.Nodup → l[k]? = some f → l[j]? = some g → k ≠ j → b ∈ f → b ∈ g → False
  | [], _, _, _, _, _, _, h, _, _, _, _ => by simp at h
  | x :: xs, j, k, f, g, b, nd, h1, h2, n, b1, b2 => by
    rw [List.flatten_cons] at nd
    obtain ⟨nd1, nd2, nd3⟩ := List.nodup_append.mp nd
    cases k with
    | zero =>
      rw [List.getElem?_cons_zero] at h1
      cases h1
      cases j with
      | zero => exact n rfl
      | succ j =>
        rw [List.getElem?_cons_succ] at h2
        exact nd3 b b1 b (List.mem_flatten.mpr ⟨g, List.mem_of_getElem? h2, b2⟩) rfl
    | succ k =>
      rw [List.getElem?_cons_succ] at h1
      cases j with
      | zero =>
        rw [List.getElem?_cons_zero] at h2
        cases h2
        exact nd3 b b2 b (List.mem_flatten.mpr ⟨f, List.mem_of_getElem? h1, b1⟩) rfl
      | succ j =>
        rw [List.getElem?_cons_succ] at h2
        exact nodup_flatten_apart nd2 h1 h2 (fun z => n (by rw [z])) b1 b2
section
variable {N : Ent} {W : WX} {L : List Addr} {as1 : List (List Addr)} {st : ST} {σ : L2.St} {H H' : Hp} {i : Nat}
/-- an object of the store is made -/
theorem Rel.pushG (r : Rel N L as1 st σ H) {p : Addr} {o : HO} {go : GO} (np : H p = none) (ok : GOk N.cls (mask (upd H p o) (p :: L)) (upd H p o) [p] go) (ho : ∀ vs, o ≠ .tup vs := by exact fun _ z => nomatch z) : Rel N (p :: L) (as1 ++ [[p]]) { st with gs := st.gs ++ [go] } σ (upd H p o) := by
  have r1 := r.guard (o := o) np ho
  have pn : p ∉ as1.flatten := fun z => absurd np (r.live p (r.inL z))
  have fl : (as1 ++ [[p]]).flatten = as1.flatten ++ [p] := by simp
  exact {
    len := r1.len
    l0 := r1.l0
    sub := r1.sub
    new := r1.new
    live := r1.live
    frame := r1.frame
    dat := r1.dat
    own := fun j ds e => by
      obtain ⟨a, vs, q1, q2, q3, q4, q5, q6⟩ := r1.own j ds e
      refine ⟨a, vs, q1, q2, q3, q4, q5, fun z => ?_⟩
      rw [fl] at z
      rcases List.mem_append.mp z with z | z
      · exact q6 z
      · have : a = p := by simpa using z
        subst this
        obtain ⟨b, ws, z1, z2, _⟩ := r.own j ds e
        rw [z1] at q1
        cases q1
        rw [np] at z2
        cases z2
    owd := r1.owd
    hdl := fun j k e => by
      obtain ⟨a, fp, q1, q2⟩ := r1.hdl j k e
      refine ⟨a, fp, ?_, q2⟩
      rw [List.getElem?_append_left (List.getElem?_eq_some_iff.mp q1).1]
      exact q1
    g := {
      glen := by
        have := r1.g.glen
        simp only [List.length_append, List.length_cons, List.length_nil] at this ⊢
        omega
      gok := fun j go' fp e f => by
        by_cases hj : j < as1.length
        · rw [List.getElem?_append_left hj] at f
          rw [List.getElem?_append_left (by rw [← r1.g.glen]; exact hj)] at e
          exact r1.g.gok j go' fp e f
        · have hl := r1.g.glen
          have hj2 : j = as1.length := by
            have := (List.getElem?_eq_some_iff.mp f).1
            rw [List.length_append (as := as1), List.length_singleton] at this
            omega
          subst hj2
          rw [List.getElem?_concat_length] at f
          rw [hl, List.getElem?_concat_length] at e
          cases e
          cases f
          exact ok
      gin := fun fp hfp b hb => by
        rcases List.mem_append.mp hfp with z | z
        · exact r1.g.gin fp z b hb
        · have : fp = [p] := by simpa using z
          subst this
          have : b = p := by simpa using hb
          subst this
          exact List.mem_cons_self
      gnd := by
        rw [fl]
        refine List.nodup_append.mpr ⟨r.g.gnd, by simp, fun a ha b hb => ?_⟩
        have : b = p := by simpa using hb
        subst this
        intro z
        subst z
        exact pn ha }
    gnew := fun b hb => by
      rw [fl] at hb
      rcases List.mem_append.mp hb with z | z
      · exact r.gnew b z
      · have : b = p := by simpa using z
        subst this
        exact .inr (r.fresh0 np)
    hd := r.hd.trans .app
    nt := r1.nt
    ent := r1.ent }
/-- the store's last objects are forgotten -/
theorem Rel.popG (r : Rel N L as1 st σ H) (n : Nat) (hn : N.as0.length ≤ n) (hd : ∀ (i j : Nat), st.sl[i]? = some (.hdl j) → j < n) : Rel N L (as1.take n) { st with gs := st.gs.take n } σ H := by
  have sub : ∀ fp ∈ as1.take n, fp ∈ as1 := fun fp h => List.mem_of_mem_take h
  exact {
    len := r.len
    l0 := r.l0
    sub := r.sub
    new := r.new
    live := r.live
    frame := r.frame
    dat := r.dat
    own := fun j ds e => by
      obtain ⟨a, vs, q1, q2, q3, q4, q5, q6⟩ := r.own j ds e
      refine ⟨a, vs, q1, q2, q3, q4, q5, fun z => q6 ?_⟩
      obtain ⟨fp, h1, h2⟩ := List.mem_flatten.mp z
      exact List.mem_flatten.mpr ⟨fp, sub fp h1, h2⟩
    owd := r.owd
    hdl := fun j k e => by
      obtain ⟨a, fp, q1, q2⟩ := r.hdl j k e
      refine ⟨a, fp, ?_, q2⟩
      rw [List.getElem?_take_of_lt (hd j k e)]
      exact q1
    g := {
      glen := by
        rw [List.length_take, List.length_take, r.g.glen]
      gok := fun j go fp e f => by
        have hj : j < n := by
          have := (List.getElem?_eq_some_iff.mp f).1
          rw [List.length_take] at this
          omega
        rw [List.getElem?_take_of_lt hj] at e f
        exact r.g.gok j go fp e f
      gin := fun fp h => r.g.gin fp (sub fp h)
      gnd := by
        have := r.g.gnd
        rw [← List.take_append_drop n as1, List.flatten_append] at this
        exact (List.nodup_append.mp this).1 }
    gnew := fun b hb => r.gnew b (by
      obtain ⟨fp, h1, h2⟩ := List.mem_flatten.mp hb
      exact List.mem_flatten.mpr ⟨fp, sub fp h1, h2⟩)
    hd := r.hd.take hn
    nt := r.nt
    ent := r.ent }
/-- an object of the store is changed -/
theorem Rel.mutG (r : Rel N L as1 st σ H) {j : Nat} {p : Addr} {o : HO} {go : GO} (f : as1[j]? = some [p]) (ok : GOk N.cls (mask H L) (upd H p o) [p] go) (hno : ∀ vs, o ≠ .tup vs := by exact fun _ z => nomatch z) : Rel N L as1 { st with gs := st.gs.set j go } σ (upd H p o) ∧ Ext L as1 H L as1 (upd H p o) := by
  have pin : p ∈ L := r.g.gin _ (List.mem_of_getElem? f) p (by simp)
  have pfl : p ∈ as1.flatten := List.mem_flatten.mpr ⟨_, List.mem_of_getElem? f, by simp⟩
  have sm : Same (mask H L) (mask (upd H p o) L) := mask_upd pin
  refine ⟨?_, sm, .refl⟩
  have nep : ∀ (k : Nat) (fp : List Addr), as1[k]? = some fp → k ≠ j → ∀ b ∈ fp, b ≠ p := fun k fp e n b hb z => by
    subst z
    -- two footprints of one address
    have nd := r.g.gnd
    have h1 : as1[k]? = some fp := e
    have h2 : as1[j]? = some [b] := f
    exact nodup_flatten_apart nd h1 h2 n hb (by simp)
  exact {
    len := r.len
    l0 := r.l0
    sub := r.sub
    new := r.new
    live := fun b hb => by
      by_cases z : b = p
      · subst z; rw [upd_same]; exact fun z => nomatch z
      · rw [upd_ne z]; exact r.live b hb
    frame := fun b u hu n => by
      have : b ≠ p := fun z => by
        subst z
        rcases r.gnew b pfl with z | z
        · exact n z
        · rw [z] at hu
          cases hu
      rw [upd_ne this]
      exact r.frame b u hu n
    dat := fun k d e => by
      obtain ⟨v, q1, q2⟩ := r.dat k d e
      exact ⟨v, q1, q2.mono sm⟩
    own := fun k ds e => by
      obtain ⟨b, ws, q1, q2, q3, q4, q5, q6⟩ := r.own k ds e
      have : b ≠ p := fun z => q6 (by rw [z]; exact pfl)
      exact ⟨b, ws, q1, by rw [upd_ne this]; exact q2, q3.mono sm, q4, q5, q6⟩
    owd := r.owd
    hdl := r.hdl
    g := {
      glen := by rw [List.length_set]; exact r.g.glen
      gok := fun k go' fp e q => by
        rcases set_get e with ⟨e1, e2, _⟩ | ⟨n, e⟩
        · subst e1; subst e2
          rw [f] at q
          cases q
          exact ok.mono sm fun _ _ _ z => z
        · refine (r.g.gok k go' fp e q).mono sm fun b hb o' ho => ?_
          rw [upd_ne (nep k fp q n b hb)]
          exact ho
      gin := r.g.gin
      gnd := r.g.gnd }
    gnew := r.gnew
    hd := r.hd
    nt := fun b hb ws => by
      by_cases z : b = p
      · subst z; rw [upd_same]; exact fun z => hno ws (Option.some.inj z)
      · rw [upd_ne z]; exact r.nt b hb ws
    ent := r.ent }
/-- the slots may be others where no word speaks of them -/
theorem Rel.sigma (r : Rel N L as1 st σ H) {σ2 : L2.St} (hl : σ2.length = σ.length) (h : ∀ k : Nat, st.sl[k]? ≠ some .un → σ2[k]? = σ[k]?) : Rel N L as1 st σ2 H where
  len := r.len.trans hl.symm
  l0 := r.l0
  sub := r.sub
  new := r.new
  live := r.live
  frame := r.frame
  dat := fun k d e => by
    rw [h k (by rw [e]; exact fun z => nomatch z)]
    exact r.dat k d e
  own := fun k d e => by
    rw [h k (by rw [e]; exact fun z => nomatch z)]
    exact r.own k d e
  owd := fun k l ds es n e f => by
    rw [h k (by rw [e]; exact fun z => nomatch z), h l (by rw [f]; exact fun z => nomatch z)]
    exact r.owd k l ds es n e f
  hdl := fun k d e => by
    rw [h k (by rw [e]; exact fun z => nomatch z)]
    exact r.hdl k d e
  g := r.g
  gnew := r.gnew
  hd := r.hd
  nt := r.nt
  ent := r.ent
end
/-! ### the block's own slots -/
def wipeS (vs : List Nat) (sl : List SV) : List SV := match vs with
  | [] => sl
  | v :: vs => (wipeS vs sl).set v .un
def keepSV : Option SV → SV
  | some (.dat d) => .dat d
  | some (.hdl j) => .hdl j
  | _ => .un
def restS (sl0 : List SV) (vs : List Nat) (sl : List SV) : List SV := match vs with
  | [] => sl
  | v :: vs => (restS sl0 vs sl).set v (keepSV sl0[v]?)
theorem wipe_len {σ : L2.St} : ∀ vs : List Nat, (wipe σ vs).length = σ.length
  | [] => rfl
  | v :: vs => by unfold wipe; rw [List.length_set, wipe_len vs]
theorem wipe_out {σ : L2.St} {k : Nat} : ∀ {vs : List Nat}, k ∉ vs → (wipe σ vs)[k]? = σ[k]?
  | [], _ => rfl
  | v :: vs, h => by
    unfold wipe
    rw [List.getElem?_set_ne (fun z => h (by rw [z]; exact List.mem_cons_self))]
    exact wipe_out fun z => h (List.mem_cons_of_mem _ z)
theorem wipe_in {σ : L2.St} {k : Nat} : ∀ {vs : List Nat}, k ∈ vs → ∀ x, (wipe σ vs)[k]? = some x → x = none
  | v :: vs, h, x, e => by
    unfold wipe at e
    rcases set_get e with ⟨_, e, _⟩ | ⟨n, e⟩
    · exact e
    · rcases List.mem_cons.mp h with z | h
      · exact absurd z n
      · exact wipe_in h x e
theorem wipe_eq {σ τ : L2.St} (vs : List Nat) (hl : σ.length = τ.length) (h : ∀ k, k ∉ vs → σ[k]? = τ[k]?) : wipe σ vs = wipe τ vs := by
  refine List.ext_getElem? fun k => ?_
  by_cases z : k ∈ vs
  · cases e : (wipe σ vs)[k]? with
    | none =>
      have h1 := List.getElem?_eq_none_iff.mp e
      rw [wipe_len] at h1
      rw [List.getElem?_eq_none (by rw [wipe_len]; omega)]
    | some x =>
      have h1 := (List.getElem?_eq_some_iff.mp e).1
      rw [wipe_len] at h1
      rw [wipe_in z x e]
      have h2 : k < (wipe τ vs).length := by rw [wipe_len]; omega
      rw [List.getElem?_eq_getElem h2]
      exact congrArg some (wipe_in z _ (List.getElem?_eq_getElem h2)).symm
  · rw [wipe_out z, wipe_out z]
    exact h k z
theorem wipe_wipe {σ : L2.St} (vs : List Nat) : wipe (wipe σ vs) vs = wipe σ vs := wipe_eq vs (wipe_len vs) fun k z => wipe_out z
theorem wipe_set {σ : L2.St} {vs : List Nat} {i : Nat} {o : Option V} (h : i ∈ vs) : wipe (σ.set i o) vs = wipe σ vs := wipe_eq vs (List.length_set ..) fun k z => List.getElem?_set_ne fun e => z (by rw [← e]; exact h)
theorem wipeS_len {sl : List SV} : ∀ vs : List Nat, (wipeS vs sl).length = sl.length
  | [] => rfl
  | v :: vs => by unfold wipeS; rw [List.length_set, wipeS_len vs]
theorem wipeS_in {sl : List SV} {k : Nat} : ∀ {vs : List Nat}, k ∈ vs → ∀ x, (wipeS vs sl)[k]? = some x → x = .un
  | v :: vs, h, x, e => by
    unfold wipeS at e
    rcases set_get e with ⟨_, e, _⟩ | ⟨n, e⟩
    · exact e
    · rcases List.mem_cons.mp h with z | h
      · exact absurd z n
      · exact wipeS_in h x e
section
variable {N : Ent} {W : WX} {L : List Addr} {as1 : List (List Addr)} {st : ST} {σ : L2.St} {H H' : Hp} {i : Nat}
theorem Rel.wipe (r : Rel N L as1 st σ H) : ∀ vs : List Nat, Rel N L as1 { st with sl := wipeS vs st.sl } σ H
  | [] => r
  | v :: vs => (Rel.wipe r vs).forget v
theorem Rel.wiped (r : Rel N L as1 st σ H) (vs : List Nat) : Rel N L as1 { st with sl := wipeS vs st.sl } (L2.wipe σ vs) H := by
  refine (r.wipe vs).sigma (wipe_len vs) fun k hk => ?_
  by_cases z : k ∈ vs
  · cases e : (wipeS vs st.sl)[k]? with
    | none =>
      have h1 := List.getElem?_eq_none_iff.mp e
      have h2 : st.sl.length = σ.length := r.len
      rw [wipeS_len] at h1
      rw [List.getElem?_eq_none (by rw [wipe_len]; omega), List.getElem?_eq_none (by omega)]
    | some x => exact absurd (by rw [e, wipeS_in z x e]) hk
  · exact wipe_out z
theorem Rel.unwiped {sl : List SV} {vs : List Nat} (r : Rel N L as1 { st with sl := wipeS vs sl } (L2.wipe σ vs) H) : Rel N L as1 { st with sl := wipeS vs sl } σ H := by
  refine r.sigma (wipe_len vs).symm fun k hk => ?_
  by_cases z : k ∈ vs
  · cases e : (wipeS vs sl)[k]? with
    | none =>
      have h1 := List.getElem?_eq_none_iff.mp e
      have h2 := r.len
      simp only [wipe_len] at h2
      have h3 := wipe_len (σ := σ) vs
      rw [List.getElem?_eq_none (by omega), List.getElem?_eq_none (by omega)]
    | some x => exact absurd (by rw [e, wipeS_in z x e]) hk
  · exact (wipe_out z).symm
/-- the words of before for the block's slots -/
theorem Rel.rest {L0 : List Addr} {as2 : List (List Addr)} {s0 : ST} {H0 : Hp} (r0 : Rel N L0 as2 s0 σ H0) (x : Ext L0 as2 H0 L as1 H) {sl : List SV} : ∀ vs : List Nat, Rel N L as1 { st with sl := sl } σ H → Rel N L as1 { st with sl := restS s0.sl vs sl } σ H
  | [], r => r
  | v :: vs, r => by
    have r1 := Rel.rest r0 x vs r
    refine Rel.name (st := ⟨restS s0.sl vs sl, st.gs⟩) (r1.forget v) ?_
    cases e : s0.sl[v]? with
    | none => exact trivial
    | some y =>
      cases y with
      | un => exact trivial
      | own ds => exact trivial
      | dat d =>
        obtain ⟨w, h1, h2⟩ := r0.dat v d e
        exact ⟨w, h1, h2.mono x.dat⟩
      | hdl j =>
        obtain ⟨a, fp, h1, h2⟩ := r0.hdl v j e
        obtain ⟨fp', f⟩ := x.pre.own j a fp h1
        exact ⟨a, fp', f, h2⟩
end
/-! ### the run of a comprehension -/
def compM {α : Type} (vs : List Nat) (put : α → M Flw) (tt : M Bool) (el : M RV) (j : Nat) : List α → ST → Option ST
  | [], st => some st
  | a :: r, st => match put a st with
    | .ok .nx s1 => (match tt s1 with
      | .ok false s2 => compM vs put tt el j r { s2 with sl := wipeS vs s2.sl }
      | .ok true s2 => (match el s2 with
        | .ok rv s3 => (match s3.esc rv with
          | some (.dat d, s4) => (match s4.gs[j]? with
            | some (.acc ds) => if ds.length < maxLen then compM vs put tt el j r ⟨wipeS vs s4.sl, s4.gs.set j (.acc (ds ++ [d]))⟩ else none
            | _ => none)
          | _ => none)
        | _ => none)
      | _ => none)
    | _ => none
def okH (j : Nat) (sl : List SV) : Bool := sl.all fun x => match x with
  | .hdl k => decide (k < j)
  | _ => true
def compTail (vs : List Nat) (sl0 : List SV) (j : Nat) (o : Option ST) : R RV := match o with
  | some s => (match s.gs[j]? with
    | some (.acc ds) => if okH j s.sl = true then .ok (.dat (.list ds)) ⟨restS sl0 vs (wipeS vs s.sl), s.gs.take j⟩ else .stuck
    | _ => .stuck)
  | none => .stuck
def compAll {α : Type} (vs : List Nat) (put : α → M Flw) (tt : M Bool) (el : M RV) (its : List α) : M RV := fun st =>
  compTail vs st.sl st.gs.length (compM vs put tt el st.gs.length its ⟨wipeS vs st.sl, st.gs ++ [.acc []]⟩)
abbrev W0 : WX := fun _ _ _ _ => False
section
variable {N : Ent} {W : WX}
theorem comp_core {α : Type} {put : α → M Flw} {tt : M Bool} {el : M RV} {J : It} {g : TG} (vs : List Nat) (its : List α) (Src : List Addr → Hp → Prop) (mono : ∀ L H L' H', Same (mask H L) (mask H' L') → Src L H → Src L' H')
    (go : ∀ (i : Nat) L H, i < its.length → Src L H → J.go i H) (stop : ∀ L H, Src L H → J.stop its.length H)
    (hput : ∀ (i : Nat) (a : α), its[i]? = some a → ∀ L as1 st σ H st1, Rel N L as1 st σ H → Src L H → put a st = .ok .nx st1 → ∀ x H', J.yld i H x H' → ∀ Q : L2.St → Hp → Prop,
      (∀ LL as2 σ2 H2, Rel N LL as2 st1 σ2 H2 → Ext L as1 H LL as2 H2 → L2.wipe σ2 vs = L2.wipe σ vs → Q σ2 H2) → g x σ H' Q)
    {Q : VK} {σ : L2.St} {H : Hp} {L : List Addr} {as1 : List (List Addr)} {st : ST} (r : Rel N L as1 st σ H) (src : Src L H) (h : Fin N W VRel L as1 σ H (compAll vs put tt el its st) Q) :
    ∀ D, H D = none → ∃ Wv : Nat → Nat → Hp → Prop, (∃ m, Wv 0 m (upd H D (.lst []))) ∧ ∀ i m H, Wv i m H →
      (J.stop i H ∧ Q (.ref D) H) ∨ (J.go i H ∧ ∃ Nx : Hp → Prop, (∀ H', Nx H' → ∃ m', m' < m ∧ Wv (i + 1) m' H') ∧ ∀ x H', J.yld i H x H' → g x (L2.wipe σ vs) H' fun σ2 H2 => L2.wipe σ2 vs = L2.wipe σ vs ∧ semT N W0 tt σ2 H2 fun b H3 =>
        if b = true then semE N W0 el σ2 H3 fun y H4 => ∃ acc, H4 D = some (.lst acc) ∧ acc.length < sizeLine ∧ Nx (upd H4 D (.lst (acc ++ [y]))) else Nx H3) := by
  intro D nD
  have gl : st.gs.length = as1.length := r.g.glen.symm
  have r0 : Rel N (D :: L) (as1 ++ [[D]]) ⟨wipeS vs st.sl, st.gs ++ [.acc []]⟩ (L2.wipe σ vs) (upd H D (.lst [])) := (r.pushG (o := .lst []) (go := .acc []) nD ⟨D, [], rfl, upd_same, .nil⟩).wiped vs
  have x0 : Ext L as1 H (D :: L) (as1 ++ [[D]]) (upd H D (.lst [])) := ⟨same_guard nD, .app⟩
  -- the place of the new list
  have atD : ∀ (as' : List (List Addr)) (L' : List Addr) (H' : Hp), Ext (D :: L) (as1 ++ [[D]]) (upd H D (.lst [])) L' as' H' → (∃ fq, as'[st.gs.length]? = some (D :: fq)) ∧ Pre as1 (as'.take as1.length) := fun as' L' H' x => by
    refine ⟨x.pre.own st.gs.length D [] ?_, (Pre.app.trans x.pre).take (Nat.le_refl _)⟩
    rw [gl, List.getElem?_append_right (Nat.le_refl _), Nat.sub_self]
    rfl
  refine ⟨fun i m Hc => m = its.length - i ∧ i ≤ its.length ∧ ∃ L' as' s, Rel N L' as' s (L2.wipe σ vs) Hc ∧ Src L' Hc ∧ Ext (D :: L) (as1 ++ [[D]]) (upd H D (.lst [])) L' as' Hc ∧
    Fin N W VRel L as1 σ H (compTail vs st.sl st.gs.length (compM vs put tt el st.gs.length (its.drop i) s)) Q, ⟨_, rfl, Nat.zero_le _, _, _, _, r0, mono _ _ _ _ x0.dat src, .refl, h⟩, ?_⟩
  rintro i m Hc ⟨rfl, hi, L', as', s, rs, srcs, xs, fs⟩
  obtain ⟨⟨fq, fD⟩, tk⟩ := atD as' L' Hc xs
  by_cases hlt : i < its.length
  · right
    have ed : its.drop i = its[i] :: its.drop (i + 1) := List.drop_eq_getElem_cons hlt
    rw [ed] at fs
    refine ⟨go i L' Hc hlt srcs, fun H2 => ∃ LL as2 s2, Rel N LL as2 s2 (L2.wipe σ vs) H2 ∧ Src LL H2 ∧ Ext (D :: L) (as1 ++ [[D]]) (upd H D (.lst [])) LL as2 H2 ∧
      Fin N W VRel L as1 σ H (compTail vs st.sl st.gs.length (compM vs put tt el st.gs.length (its.drop (i + 1)) s2)) Q, fun H2 q => ⟨_, by omega, rfl, hlt, q⟩, fun x H' y => ?_⟩
    simp only [compM] at fs
    cases e1 : put its[i] s with
    | stuck => rw [e1] at fs; exact fs.elim
    | exc c s1 => rw [e1] at fs; exact fs.elim
    | ok fl s1 =>
      cases fl with
      | ret v => rw [e1] at fs; exact fs.elim
      | brk => rw [e1] at fs; exact fs.elim
      | cnt => rw [e1] at fs; exact fs.elim
      | nx =>
        rw [e1] at fs
        dsimp only at fs
        refine hput i its[i] (List.getElem?_eq_getElem hlt) L' as' s _ Hc s1 rs srcs e1 x H' y _ fun L2' as2 σ2 H2 r2 x2 wq => ?_
        have ww : L2.wipe (L2.wipe σ vs) vs = L2.wipe σ vs := wipe_wipe vs
        rw [ww] at wq
        refine ⟨wq, L2', as2, s1, r2, ?_⟩
        cases e2 : tt s1 with
        | stuck => rw [e2] at fs; exact fs.elim
        | exc c s2 => rw [e2] at fs; exact fs.elim
        | ok b s2 =>
          rw [e2] at fs
          intro L3 as3 b' H3 r3 eb x3
          subst eb
          cases b' with
          | false =>
            refine iteF ⟨L3, as3, _, ?_, mono _ _ _ _ (x2.trans x3).dat srcs, xs.trans (x2.trans x3), fs⟩
            have := r3.wiped vs
            rw [wq] at this
            exact this
          | true =>
            refine iteT ⟨L3, as3, s2, r3, ?_⟩
            dsimp only at fs
            cases e3 : el s2 with
            | stuck => rw [e3] at fs; exact fs.elim
            | exc c s3 => rw [e3] at fs; exact fs.elim
            | ok rv s3 =>
              rw [e3] at fs
              dsimp only at fs
              intro L4 as4 v4 H4 r4 hv4 x4
              cases e4 : s3.esc rv with
              | none => rw [e4] at fs; exact fs.elim
              | some pq =>
                obtain ⟨rv5, s5⟩ := pq
                rw [e4] at fs
                obtain ⟨L5, r5, x5, v5, n5⟩ := r4.esc hv4 e4
                cases rv5 with
                | bor k => exact absurd rfl (n5 k)
                | hdl k => exact fs.elim
                | dat d =>
                  dsimp only at fs
                  have xall := xs.trans (x2.trans (x3.trans (x4.trans x5)))
                  obtain ⟨⟨fq5, fD5⟩, tk5⟩ := atD as4 L5 H4 xall
                  cases e5 : s5.gs[st.gs.length]? with
                  | none => rw [e5] at fs; exact fs.elim
                  | some go =>
                    rw [e5] at fs
                    cases go with
                    | drw a b => exact fs.elim
                    | exn c => exact fs.elim
                    | tab q => exact fs.elim
                    | tpl ns => exact fs.elim
                    | ins _ => exact fs.elim
                    | dl _ => exact fs.elim
                    | dz _ => exact fs.elim
                    | dn _ => exact fs.elim
                    | d0 _ => exact fs.elim
                    | dk a => exact fs.elim
                    | dt a => exact fs.elim
                    | acc ds =>
                      dsimp only at fs
                      obtain ⟨p, ws, ep, hp, hw⟩ := r5.g.gok _ _ _ e5 fD5
                      cases ep
                      by_cases hl : ds.length < maxLen
                      · rw [if_pos hl] at fs
                        refine ⟨ws, hp, ?_, ?_⟩
                        · have := hw.length
                          have hm : maxLen ≤ sizeLine := by decide
                          omega
                        · obtain ⟨r6, x6⟩ := r5.mutG (o := .lst (ws ++ [v4])) (go := .acc (ds ++ [d])) fD5 ⟨D, ws ++ [v4], rfl, upd_same, hw.append (Ats.one v5)⟩
                          refine ⟨L5, as4, _, ?_, mono _ _ _ _ (x2.trans (x3.trans (x4.trans (x5.trans x6)))).dat srcs, xall.trans x6, fs⟩
                          have := r6.wiped vs
                          rw [wq] at this
                          exact this
                      · rw [if_neg hl] at fs; exact fs.elim
  · left
    have e : i = its.length := by omega
    subst e
    rw [List.drop_length] at fs
    refine ⟨stop L' Hc srcs, ?_⟩
    simp only [compM, compTail] at fs
    cases e5 : s.gs[st.gs.length]? with
    | none => rw [e5] at fs; exact fs.elim
    | some go =>
      rw [e5] at fs
      cases go with
      | drw a b => exact fs.elim
      | exn c => exact fs.elim
      | tab q => exact fs.elim
      | tpl ns => exact fs.elim
      | ins _ => exact fs.elim
      | dl _ => exact fs.elim
      | dz _ => exact fs.elim
      | dn _ => exact fs.elim
      | d0 _ => exact fs.elim
      | dk a => exact fs.elim
      | dt a => exact fs.elim
      | acc ds =>
        dsimp only at fs
        obtain ⟨p, ws, ep, hp, hw⟩ := rs.g.gok _ _ _ e5 fD
        cases ep
        by_cases ho : okH st.gs.length s.sl = true
        · rw [if_pos ho] at fs
          have hnd : N.H0 D = none := r.fresh0 nD
          have r1 := rs.popG as1.length r.hd.len (fun k l e => by
            have := List.all_eq_true.mp ho _ (List.mem_of_getElem? e)
            simp only [decide_eq_true_eq] at this
            omega)
          rw [← gl] at r1 tk
          have ndD : D ∉ (as'.take st.gs.length).flatten := fun z => by
            have nd := rs.g.gnd
            rw [← List.take_append_drop st.gs.length as', List.flatten_append] at nd
            refine (List.nodup_append.mp nd).2.2 D z D (List.mem_flatten.mpr ⟨_, List.mem_of_getElem? (i := 0) (a := [D]) ?_, by simp⟩) rfl
            rw [List.getElem?_drop, Nat.add_zero]
            exact fD
          have r2 := r1.drop hnd (fun k es e z => by
            obtain ⟨b, zs, q1, q2, q3, q4, q5, q6⟩ := rs.own k es e
            rw [q1] at z
            cases z
            exact q6 (List.mem_flatten.mpr ⟨_, List.mem_of_getElem? fD, by simp⟩)) ndD
          have sm : Same (mask Hc L') (mask Hc (L'.filter (· ≠ D))) := mask_less fun b hb => (List.mem_filter.mp hb).1
          have xx : Ext L as1 H (L'.filter (· ≠ D)) (as'.take st.gs.length) Hc := ⟨x0.dat.trans (xs.dat.trans sm), tk⟩
          have r3 := (r2.wipe vs)
          have r4 : Rel N (L'.filter (· ≠ D)) (as'.take st.gs.length) ⟨wipeS vs s.sl, s.gs.take st.gs.length⟩ σ Hc := Rel.unwiped (st := ⟨s.sl, s.gs.take st.gs.length⟩) r3
          have r5 := Rel.rest (st := ⟨wipeS vs s.sl, s.gs.take st.gs.length⟩) r xx vs r4
          refine fs _ _ (.ref D) Hc r5 ?_ xx
          exact .lst (mask_of hp fun z => by
            have := (List.mem_filter.mp z).2
            simp at this) (hw.mono sm)
        · rw [if_neg ho] at fs; exact fs.elim
end
end JL
/-! J8: comprehensions as rules; slices, isinstance, methods that read. -/
namespace JL
open PySem PySem.Spec PyProof.Rows L2

section
variable {X : Cx} {N : Ent} {W : WX} {e a b c : Expr} {es : List Expr} {ma mb mc : M RV} {mt mu : M Bool} {mr : M (List RV)} {pos : Pos} {s : Stmt} {ss : List Stmt} {m1 m2 : M Flw}
@[simp] def mLc (vs : List Nat) (i : Nat) (ma : M RV) (tt : M Bool) (el : M RV) (st0 : ST) : R RV := (ma.bind fun r => fun st => match st.esc r with
  | some (.dat d, st') => (match seqOf d with
    | some ds => compAll vs (putDat i) tt el ds st'
    | none => .stuck)
  | _ => .stuck) st0
@[simp] def mLcR1 (vs : List Nat) (i : Nat) (mr : M (List RV)) (tt : M Bool) (el : M RV) (st0 : ST) : R RV := (mr.bind fun rs => fun st => match lookAll st rs with
  | some [.int j] => if in62 j = true then compAll vs (putDat i) tt el (rangeD 0 j) st else .stuck
  | _ => .stuck) st0
@[simp] def mYes (st : ST) : R Bool := .ok true st
def JTs (X : Cx) (N : Ent) (ifs : List Expr) (m : M Bool) : Prop := PTs X ifs (semT N W0 m)
theorem jts_nil : JTs X N [] mYes := ⟨fun pins s σ H Q I ⟨L, as1, st, r, h⟩ => pts_nil.run pins s σ H Q I (h L as1 true H r rfl .refl)⟩
theorem jts_one (h : JT X N W0 c mt) : JTs X N [c] mt := pts_one h
theorem put_wipe {i : Nat} {vs : List Nat} (hi : i ∈ vs) {d : PyData} {L : List Addr} {as1 : List (List Addr)} {st st1 : ST} {σ : L2.St} {H : Hp} {v : V} (r : Rel N L as1 st σ H) (hv : At (mask H L) v d) (e : putDat i d st = .ok .nx st1) {Q : L2.St → Hp → Prop}
    (q : ∀ LL as2 σ2 H2, Rel N LL as2 st1 σ2 H2 → Ext L as1 H LL as2 H2 → L2.wipe σ2 vs = L2.wipe σ vs → Q σ2 H2) : gName i v σ H Q := by
  unfold putDat at e
  split at e
  · rename_i hl
    cases e
    exact q L as1 _ H (r.setDat (by rw [← r.len]; exact hl) hv) .refl (wipe_set hi)
  · cases e
theorem sem_lc {vs : List Nat} {i : Nat} (hi : i ∈ vs) {tt : M Bool} {el : M RV} {K : PySem.W.Frag} {σ : L2.St} {H : Hp} {Q : VK} (h : semE N W (mLc vs i ma tt el) σ H Q) : tLc (iSeq K (semE N W ma)) (gName i) (semT N W0 tt) (semE N W0 el) vs σ H Q := by
  obtain ⟨L, as1, st, rel, h⟩ := h
  refine sem_mono (fin_bind (P1 := VRel) rel h) fun v H1 ⟨L3, as3, s3, rv, r3, v3, x3, f3⟩ => ?_
  cases e1 : s3.esc rv with
  | none => rw [e1] at f3; exact f3.elim
  | some pq =>
    obtain ⟨q, s4⟩ := pq
    rw [e1] at f3
    obtain ⟨L4, r4, x4, v4, n4⟩ := r3.esc v3 e1
    cases q with
    | bor j => exact absurd rfl (n4 j)
    | hdl j => exact f3.elim
    | dat d =>
      dsimp only at f3
      cases d with
      | none => exact f3.elim
      | bool b => exact f3.elim
      | int b => exact f3.elim
      | str b => exact f3.elim
      | dict b => exact f3.elim
      | list ds =>
        have f4 := Fin.from f3 x4
        cases v4 with
        | @lst p ws _ ha hs =>
          refine .inl ⟨p, rfl, ⟨ws, SqL.of (mask_same _ _ ha)⟩, ?_⟩
          refine comp_core (J := Itl K p) vs ds (fun L H => ∃ vs, mask H L p = some (.lst vs) ∧ Ats (mask H L) vs ds) (fun L H L' H' s ⟨vs, h1, h2⟩ => ⟨vs, s _ _ h1, h2.mono s⟩) ?_ ?_ ?_ r4 ⟨ws, ha, hs⟩ f4
          · rintro k L H hk ⟨vs, h1, h2⟩
            exact ⟨vs, vs[k]'(by rw [h2.length]; exact hk), SqL.of (mask_same _ _ h1), List.getElem?_eq_getElem _⟩
          · rintro L H ⟨vs, h1, h2⟩
            exact ⟨vs, SqL.of (mask_same _ _ h1), by rw [h2.length]; exact Nat.le_refl _⟩
          · rintro k d hk L as1 st σ H st1 r ⟨vs, h1, h2⟩ e x H' ⟨rfl, y⟩ Q q
            obtain ⟨v, g1, g2⟩ := h2.get hk
            have := y vs (SqL.of (mask_same _ _ h1))
            rw [g1] at this
            cases this
            exact put_wipe hi r g2 e q
      | tuple ds =>
        have f4 := Fin.from f3 x4
        cases v4 with
        | @tup p ws _ ha hs =>
          refine .inr ⟨p, rfl, ⟨ws, SqT.of (mask_same _ _ ha)⟩, ?_⟩
          refine comp_core (J := Itt K p) vs ds (fun L H => ∃ vs, mask H L p = some (.tup vs) ∧ Ats (mask H L) vs ds) (fun L H L' H' s ⟨vs, h1, h2⟩ => ⟨vs, s _ _ h1, h2.mono s⟩) ?_ ?_ ?_ r4 ⟨ws, ha, hs⟩ f4
          · rintro k L H hk ⟨vs, h1, h2⟩
            exact ⟨vs, vs[k]'(by rw [h2.length]; exact hk), SqT.of (mask_same _ _ h1), List.getElem?_eq_getElem _⟩
          · rintro L H ⟨vs, h1, h2⟩
            exact ⟨vs, SqT.of (mask_same _ _ h1), by rw [h2.length]; exact Nat.le_refl _⟩
          · rintro k d hk L as1 st σ H st1 r ⟨vs, h1, h2⟩ e x H' ⟨rfl, y⟩ Q q
            obtain ⟨v, g1, g2⟩ := h2.get hk
            have := y vs (SqT.of (mask_same _ _ h1))
            rw [g1] at this
            cases this
            exact put_wipe hi r g2 e q
theorem comp_range {vs : List Nat} {i : Nat} (hi : i ∈ vs) {tt : M Bool} {el : M RV} {lo : Int} {n : Nat} {σ : L2.St} {H : Hp} {Q : VK} {L : List Addr} {as1 : List (List Addr)} {st : ST} (r : Rel N L as1 st σ H)
    (h : Fin N W VRel L as1 σ H (compAll vs (putDat i) tt el ((List.range n).map fun k => PyData.int (lo + (k : Nat))) st) Q) :
    ∀ D, H D = none → ∃ Wv : Nat → Nat → Hp → Prop, (∃ m, Wv 0 m (upd H D (.lst []))) ∧ ∀ k m H, Wv k m H →
      ((Itr lo n).stop k H ∧ Q (.ref D) H) ∨ ((Itr lo n).go k H ∧ ∃ Nx : Hp → Prop, (∀ H', Nx H' → ∃ m', m' < m ∧ Wv (k + 1) m' H') ∧ ∀ x H', (Itr lo n).yld k H x H' → gName i x (L2.wipe σ vs) H' fun σ2 H2 => L2.wipe σ2 vs = L2.wipe σ vs ∧ semT N W0 tt σ2 H2 fun b H3 =>
        if b = true then semE N W0 el σ2 H3 fun y H4 => ∃ acc, H4 D = some (.lst acc) ∧ acc.length < sizeLine ∧ Nx (upd H4 D (.lst (acc ++ [y]))) else Nx H3) := by
  refine comp_core (J := Itr lo n) vs _ (fun _ _ => True) (fun _ _ _ _ _ _ => trivial) (fun k L H hk _ => ?_) (fun L H _ => ?_) (fun k d hk L as1 st σ H st1 r _ e x H' y Q q => ?_) r trivial h
  · rw [List.length_map, List.length_range] at hk
    exact hk
  · rw [List.length_map, List.length_range]
    exact Nat.le_refl _
  · obtain ⟨rfl, rfl⟩ := y
    have hd : d = .int (lo + k) := by
      rw [List.getElem?_map] at hk
      have hk2 : k < n := by
        by_cases z : k < n
        · exact z
        · rw [List.getElem?_eq_none (by rw [List.length_range]; omega)] at hk
          cases hk
      rw [List.getElem?_range hk2] at hk
      cases hk
      rfl
    rw [hd] at e
    exact put_wipe hi r (.int _) e q
theorem sem_lcR1 {vs : List Nat} {i : Nat} (hi : i ∈ vs) {tt : M Bool} {el : M RV} {σ : L2.St} {H : Hp} {Q : VK} (h : semE N W (mLcR1 vs i mr tt el) σ H Q) : tLc (iRng1 (semA N W mr)) (gName i) (semT N W0 tt) (semE N W0 el) vs σ H Q := by
  obtain ⟨L, as1, st, rel, h⟩ := h
  refine sem_mono (fin_bind (P1 := VRels) rel h) fun v H1 ⟨L3, as3, s3, rs, r3, v3, x3, f3⟩ => ?_
  cases e1 : lookAll s3 rs with
  | none => rw [e1] at f3; exact f3.elim
  | some ds =>
    rw [e1] at f3
    have pr := r3.lookAll v3 e1
    split at f3
    · rename_i j ej
      cases ej
      split at f3
      · rename_i hj
        obtain ⟨v, rfl, hv⟩ := Paired.one pr
        cases hv.int
        obtain ⟨b1, b2⟩ := in62_iff hj
        refine ⟨j, rfl, b1, b2, comp_range (W := W) hi r3 ?_⟩
        have e0 : (j - 0).toNat = j.toNat := by rw [Int.sub_zero]
        unfold rangeD at f3
        rw [e0] at f3
        exact f3
      · exact f3.elim
    · exact f3.elim
variable {elt : Expr} {ifs : List Expr} {scope : Scope} {own : List (Str × Nat)} {tt : M Bool} {el : M RV}
theorem je_lc {i : Nat} {x : Str} {px : Pos} (hN : X.N.Nodup) (hs : JE X N W e ma) (ok : BlkOk X.N X.env.scope scope own) (hg : ∀ (s : Shared) (H : Hp) (C : Addr) (cl : List (Str × Addr)) (fp : List Addr), PG (X.blk s H scope (compEnvC scope cl C X.env) fp) (.Name x px) (gName i))
    (ht : ∀ (s : Shared) (H : Hp) (C : Addr) (cl : List (Str × Addr)) (fp : List Addr), JTs (X.blk s H scope (compEnvC scope cl C X.env) fp) N ifs tt) (he : ∀ (s : Shared) (H : Hp) (C : Addr) (cl : List (Str × Addr)) (fp : List Addr), JE (X.blk s H scope (compEnvC scope cl C X.env) fp) N W0 elt el)
    (hi : i ∈ own.map (·.2) := by decide) (hc : X.calm = true := by rfl) (hfs : ∀ z, foldedSetIterable e X.env z = pure z := by intro _; rfl) : JE X N W (.ListComp elt [⟨.Name x px, e, ifs, 0⟩] scope pos) (mLc (own.map (·.2)) i ma tt el) :=
  PE.weak (pe_lc hc hN (pi_seq hs) ok hg ht he hfs) fun σ H Q h => sem_lc hi h
theorem je_lcR1 {i : Nat} {x : Str} {px p pr : Pos} (hN : X.N.Nodup) (hm : X.mg "range" = none) (hs : JA X N W [a] mr) (ok : BlkOk X.N X.env.scope scope own) (hg : ∀ (s : Shared) (H : Hp) (C : Addr) (cl : List (Str × Addr)) (fp : List Addr), PG (X.blk s H scope (compEnvC scope cl C X.env) fp) (.Name x px) (gName i))
    (ht : ∀ (s : Shared) (H : Hp) (C : Addr) (cl : List (Str × Addr)) (fp : List Addr), JTs (X.blk s H scope (compEnvC scope cl C X.env) fp) N ifs tt) (he : ∀ (s : Shared) (H : Hp) (C : Addr) (cl : List (Str × Addr)) (fp : List Addr), JE (X.blk s H scope (compEnvC scope cl C X.env) fp) N W0 elt el)
    (hi : i ∈ own.map (·.2) := by decide) (hc : X.calm = true := by rfl) (hgl : Gl X "range" := by rfl) (hse : starEach [a] X.env = [(false, eval a X.env)] := by rfl) (hfs : ∀ z, foldedSetIterable (.Call (.Name "range" p) [a] [] pr) X.env z = pure z := by intro _; rfl) :
    JE X N W (.ListComp elt [⟨.Name x px, .Call (.Name "range" p) [a] [] pr, ifs, 0⟩] scope pos) (mLcR1 (own.map (·.2)) i mr tt el) :=
  PE.weak (pe_lc hc hN (pi_range1 hgl hm hs hse) ok hg ht he hfs) fun σ H Q h => sem_lcR1 hi h
theorem js_setLc {k i : Nat} {y x : Str} {py px sp : Pos} (hN : X.N.Nodup) (hs : JE X N W e ma) (ok : BlkOk X.N X.env.scope scope own) (hg : ∀ (s : Shared) (H : Hp) (C : Addr) (cl : List (Str × Addr)) (fp : List Addr), PG (X.blk s H scope (compEnvC scope cl C X.env) fp) (.Name x px) (gName i))
    (ht : ∀ (s : Shared) (H : Hp) (C : Addr) (cl : List (Str × Addr)) (fp : List Addr), JTs (X.blk s H scope (compEnvC scope cl C X.env) fp) N ifs tt) (he : ∀ (s : Shared) (H : Hp) (C : Addr) (cl : List (Str × Addr)) (fp : List Addr), JE (X.blk s H scope (compEnvC scope cl C X.env) fp) N W0 elt el)
    (hsw : swapsWith (.ListComp elt [⟨.Name x px, e, ifs, 0⟩] scope pos) (some (.Name y py)) sp.line X.env = pure true) (hy : X.N[k]? = some y := by rfl) (hyl : X.env.scope.names.lookup y = some .local := by rfl)
    (hi : i ∈ own.map (·.2) := by decide) (hc : X.calm = true := by rfl) (hfs : ∀ z, foldedSetIterable e X.env z = pure z := by intro _; rfl) : JS X N W (.Assign [.Name y py] (.ListComp elt [⟨.Name x px, e, ifs, 0⟩] scope pos) sp) (mSet k (mLc (own.map (·.2)) i ma tt el)) :=
  PS.weak (ps_setLc hc hN hy hyl hsw (pi_seq hs) ok hg ht he hfs) fun D σ H ⟨L, as1, st, rel, h⟩ =>
    sem_lc (ma := ma) hi (sem_mono (finS_bind (P1 := VRel) rel h) fun v H1 ⟨L3, as3, s3, rv3, r3, v3, f3⟩ => fin_set r3 v3 f3)
theorem js_setLcR1 {k i : Nat} {y x : Str} {py px sp p pr : Pos} (hN : X.N.Nodup) (hm : X.mg "range" = none) (hs : JA X N W [a] mr) (ok : BlkOk X.N X.env.scope scope own) (hg : ∀ (s : Shared) (H : Hp) (C : Addr) (cl : List (Str × Addr)) (fp : List Addr), PG (X.blk s H scope (compEnvC scope cl C X.env) fp) (.Name x px) (gName i))
    (ht : ∀ (s : Shared) (H : Hp) (C : Addr) (cl : List (Str × Addr)) (fp : List Addr), JTs (X.blk s H scope (compEnvC scope cl C X.env) fp) N ifs tt) (he : ∀ (s : Shared) (H : Hp) (C : Addr) (cl : List (Str × Addr)) (fp : List Addr), JE (X.blk s H scope (compEnvC scope cl C X.env) fp) N W0 elt el)
    (hsw : swapsWith (.ListComp elt [⟨.Name x px, .Call (.Name "range" p) [a] [] pr, ifs, 0⟩] scope pos) (some (.Name y py)) sp.line X.env = pure true) (hy : X.N[k]? = some y := by rfl) (hyl : X.env.scope.names.lookup y = some .local := by rfl)
    (hi : i ∈ own.map (·.2) := by decide) (hc : X.calm = true := by rfl) (hgl : Gl X "range" := by rfl) (hse : starEach [a] X.env = [(false, eval a X.env)] := by rfl) (hfs : ∀ z, foldedSetIterable (.Call (.Name "range" p) [a] [] pr) X.env z = pure z := by intro _; rfl) :
    JS X N W (.Assign [.Name y py] (.ListComp elt [⟨.Name x px, .Call (.Name "range" p) [a] [] pr, ifs, 0⟩] scope pos) sp) (mSet k (mLcR1 (own.map (·.2)) i mr tt el)) :=
  PS.weak (ps_setLc hc hN hy hyl hsw (pi_range1 hgl hm hs hse) ok hg ht he hfs) fun D σ H ⟨L, as1, st, rel, h⟩ =>
    sem_lcR1 (mr := mr) hi (sem_mono (finS_bind (P1 := VRel) rel h) fun v H1 ⟨L3, as3, s3, rv3, r3, v3, f3⟩ => fin_set r3 v3 f3)

/-! ### isinstance -/
def tyName : PyData → String
  | .none => "NoneType"
  | .bool _ => "bool"
  | .int _ => "int"
  | .str _ => "str"
  | .list _ => "list"
  | .tuple _ => "tuple"
  | .dict _ => "dict"
/-- the answer of isinstance for the types that are asked here -/
@[simp] def isiT (T : String) : PyData → Bool := match T with
  | "int" => fun d => match d with | .int _ => true | .bool _ => true | _ => false
  | "bool" => fun d => match d with | .bool _ => true | _ => false
  | "list" => fun d => match d with | .list _ => true | _ => false
  | "tuple" => fun d => match d with | .tuple _ => true | _ => false
  | "str" => fun d => match d with | .str _ => true | _ => false
  | _ => fun _ => false
@[simp] def isiD (T : String) (d : PyData) : Option PyData := some (.bool (isiT T d))
def isiOk (T : String) : Prop := kitB "NoneType" T = some (isiT T .none) ∧ kitB "bool" T = some (isiT T (.bool true)) ∧ kitB "int" T = some (isiT T (.int 0)) ∧ kitB "str" T = some (isiT T (.str "")) ∧ kitB "list" T = some (isiT T (.list [])) ∧ kitB "tuple" T = some (isiT T (.tuple []))
theorem isi_int : isiOk "int" := by unfold isiOk; decide +kernel
theorem isi_bool : isiOk "bool" := by unfold isiOk; decide +kernel
theorem isi_list : isiOk "list" := by unfold isiOk; decide +kernel
theorem isi_tuple : isiOk "tuple" := by unfold isiOk; decide +kernel
theorem isi_str : isiOk "str" := by unfold isiOk; decide +kernel
end
end JL
/-! J9: isinstance, chains, slices, index, dicts counted, further targets. -/
namespace JL
open PySem PySem.Spec PyProof.Rows L2

section
variable {X : Cx} {N : Ent} {W : WX} {e a b c : Expr} {es : List Expr} {ma mb mc : M RV} {mt mu : M Bool} {mr : M (List RV)} {pos : Pos} {s : Stmt} {ss : List Stmt} {m1 m2 : M Flw}
theorem Rdb.ty {K : PySem.W.Frag} {H : Hp} {L : List Addr} {v : V} {d : PyData} (h : Rdb H L v d) : TyX K H v (.type (tyName d)) := by
  cases h with
  | «at» h =>
    cases h with
    | non => exact .base .non
    | bl b => exact .base (.bl b)
    | int i => exact .base (.int i)
    | str x => exact .base (.str x)
    | lst h _ => exact .base (.lst (mask_same _ _ h))
    | tup h _ => exact .base (.tup (mask_same _ _ h))
  | own h _ => exact .base (.lst h)
theorem kit_isi {K : PySem.W.Frag} {T : String} (ok : isiOk T) (hT : T = "int" ∨ T = "bool" ∨ T = "list" ∨ T = "tuple" ∨ T = "str") {H : Hp} {L : List Addr} {v : V} {d : PyData} (h : Rdb H L v d) : PySem.W.kitOne K (.type (tyName d)) (.type T) = some (isiT T d) := by
  obtain ⟨k1, k2, k3, k4, k5, k6⟩ := ok
  have nd : ∀ kvs, d ≠ .dict kvs := fun kvs z => by
    subst z
    cases h with
    | «at» h => cases h
  cases d with
  | none => exact kit_ty k1
  | bool x => rw [show isiT T (.bool x) = isiT T (.bool true) by rcases hT with rfl | rfl | rfl | rfl | rfl <;> rfl]; exact kit_ty k2
  | int x => rw [show isiT T (.int x) = isiT T (.int 0) by rcases hT with rfl | rfl | rfl | rfl | rfl <;> rfl]; exact kit_ty k3
  | str x => rw [show isiT T (.str x) = isiT T (.str "") by rcases hT with rfl | rfl | rfl | rfl | rfl <;> rfl]; exact kit_ty k4
  | list x => rw [show isiT T (.list x) = isiT T (.list []) by rcases hT with rfl | rfl | rfl | rfl | rfl <;> rfl]; exact kit_ty k5
  | tuple x => rw [show isiT T (.tuple x) = isiT T (.tuple []) by rcases hT with rfl | rfl | rfl | rfl | rfl <;> rfl]; exact kit_ty k6
  | dict x => exact absurd rfl (nd x)
theorem je_isi {T : String} {x : Str} {p p2 : Pos} (hx : x = Str.ofString T) (ok : isiOk T) (hT : T = "int" ∨ T = "bool" ∨ T = "list" ∨ T = "tuple" ∨ T = "str") (ha : JE X N W a ma) (hm : X.mg "isinstance" = none) (hmT : X.mg x = none) (hvT : bootBuiltins x = some (.type T))
    (hg : Gl X "isinstance" := by rfl) (hgT : Gl X x := by rfl) (hnT : x ≠ "__name__" := by decide) (hdT : (x == ("__debug__" : Str)) = false := by decide)
    (he1 : starEach [a, .Name x p2] X.env = (false, eval a X.env) :: starEach [.Name x p2] X.env := by rfl) (he2 : starEach [.Name x p2] X.env = (false, eval (.Name x p2) X.env) :: starEach [] X.env := by rfl) (hpl : (backTo pos (starEach [.Name x p2] X.env)).any (·.1) = false := by rfl) :
    JE X N W (.Call (.Name "isinstance" p) [a, .Name x p2] [] pos) (mOp1 (isiD T) ma) := by
  refine PE.weak (pe_callB call_isi hg hm (by decide +kernel) (pa_cons ha (pa_cons (pe_bltn (v := .ty T) hgT hmT hvT rfl hnT hdT) pa_nil he2) he1) (by decide) (by decide) he1 hpl) fun σ H Q ⟨L, as1, st, rel, h⟩ => ?_
  refine sem_mono (fin_bind (P1 := VRel) rel h) fun v H1 ⟨L3, as3, s3, rv, r3, v3, x3, f3⟩ => ?_
  cases e1 : s3.look rv with
  | none => rw [e1] at f3; exact f3.elim
  | some d =>
    rw [e1] at f3
    have q := r3.look v3 e1
    exact ⟨v, .ty T, .type (tyName d), .type T, isiT T d, rfl, .ty T, q.ty, kit_isi ok hT q, fin_dat r3 f3 (Same.refl _) (.bl _)⟩
/-- a < b < c: the middle one is asked once -/
@[simp] def mChain (f f' : PyData → PyData → Option PyData) (ma mb mc : M RV) (st0 : ST) : R RV := (ma.bind fun a => mb.bind fun b => fun st => match (st.look a).bind fun d => (st.look b).bind fun e => f d e with
  | some (.bool true) => (mc.bind fun c => fun st => outO ((st.look b).bind fun d => (st.look c).bind fun e => f' d e) st) st
  | some (.bool false) => .ok (.dat (.bool false)) st
  | _ => .stuck) st0
def Bool2 (r : R2) (f : PyData → PyData → Option PyData) : Prop :=
  ∀ (x y : V) (H : Hp) (L : List Addr) (Q : VK) (d e : PyData) (b : Bool), (∀ a ∈ L, H a ≠ none) → Rdb H L x d → Rdb H L y e → f d e = some (.bool b) → Q (.bl b) H → r x y H Q
theorem bool_cmp (p : Int → Int → Bool) : Bool2 (rI0 fun i j => .bl (p i j)) (cmpD p) := by
  intro x y H L Q d e g live hx hy he k
  unfold cmpD at he
  split at he
  · cases he
    exact ⟨_, _, hx.int, hy.int, k⟩
  · cases he
theorem sem_chain {r r' : R2} {f f' : PyData → PyData → Option PyData} (p : Bool2 r f) (p' : Pure2 r' f') {σ : L2.St} {H : Hp} {Q : VK} (h : semE N W (mChain f f' ma mb mc) σ H Q) : tChain r r' (semE N W ma) (semE N W mb) (semE N W mc) σ H Q := by
  obtain ⟨L, as1, st, rel, h⟩ := h
  refine sem_mono (fin_bind (P1 := VRel) rel h) fun v H1 ⟨L3, as3, s3, rv3, r3, v3, x3, f3⟩ => ?_
  refine sem_mono (fin_bind (P1 := VRel) r3 f3) fun w H2 ⟨L6, as6, s6, rv6, r6, v6, x6, f6⟩ => ?_
  have v3' := v3.ext x6
  cases e1 : s6.look rv3 with
  | none => rw [e1] at f6; exact f6.elim
  | some d =>
    rw [e1] at f6
    cases e2 : s6.look rv6 with
    | none => rw [e2] at f6; exact f6.elim
    | some d2 =>
      rw [e2] at f6
      simp only [Option.bind_some] at f6
      split at f6
      · rename_i e3
        refine p v w H2 L6 _ d d2 true r6.live (r6.look v3' e1) (r6.look v6 e2) e3 ⟨true, rfl, iteT ?_⟩
        exact sem_mono (fin_bind (P1 := VRel) r6 f6) fun z H7 ⟨L8, as8, s8, rv8, r8, v8, x8, f8⟩ => fin_op2 p' r8 (v6.ext x8) v8 f8
      · rename_i e3
        exact p v w H2 L6 _ d d2 false r6.live (r6.look v3' e1) (r6.look v6 e2) e3 ⟨false, rfl, iteF (fin_dat r6 f6 (Same.refl _) (.bl _))⟩
      · exact f6.elim
theorem je_chain {op op' : CmpOp} {r r' : R2} {f f' : PyData → PyData → Option PyData} (ho : OpR X (compareOp op) r) (ho' : OpR X (compareOp op') r') (p : Bool2 r f) (p' : Pure2 r' f') (ha : JE X N W a ma) (hb : JE X N W b mb) (hc : JE X N W c mc)
    (hm : lastMarks [op, op'] [b, c] = false := by with_unfolding_all rfl) : JE X N W (.Compare a [op, op'] [b, c] pos) (mChain f f' ma mb mc) := PE.weak (pe_chain ho ho' ha hb hc hm) fun _ _ _ h => sem_chain p p' h
theorem jt_chain {op op' : CmpOp} {r r' : R2} {f f' : PyData → PyData → Option PyData} (ho : OpR X (compareOp op) r) (ho' : OpR X (compareOp op') r') (p : Bool2 r f) (p' : Pure2 r' f') (ha : JE X N W a ma) (hb : JE X N W b mb) (hc : JE X N W c mc)
    (hm : lastMarks [op, op'] [b, c] = false := by with_unfolding_all rfl) : JT X N W (.Compare a [op, op'] [b, c] pos) (mTest (mChain f f' ma mb mc)) :=
  PT.weak (pt_chain ho ho' ha hb hc hm) fun σ H Q h => sem_chain p p' (sem_test h)
/-- is True, is not True .. of bools -/
@[simp] def isBD : PyData → PyData → Option PyData
  | .bool a, .bool b => some (.bool (decide (a = b)))
  | _, _ => none
@[simp] def notBD : PyData → PyData → Option PyData
  | .bool a, .bool b => some (.bool (!decide (a = b)))
  | _, _ => none
theorem pure_isB : Pure2 rIsB isBD := by
  intro x y H L Q d e g live hx hy he k
  unfold isBD at he
  split at he
  · cases he
    exact ⟨_, _, hx.bool, hy.bool, k _ _ (Same.refl _) (.bl _)⟩
  · cases he
theorem pure_notB : Pure2 rNotB notBD := by
  intro x y H L Q d e g live hx hy he k
  unfold notBD at he
  split at he
  · cases he
    exact ⟨_, _, hx.bool, hy.bool, k _ _ (Same.refl _) (.bl _)⟩
  · cases he

/-! ### slices -/
abbrev pO : Pr (Option Int) (Option Int) := fun _ _ _ _ b c => b = c
@[simp] def mNoPart (st : ST) : R (Option Int) := .ok none st
@[simp] def mPart (ma : M RV) (st0 : ST) : R (Option Int) := (ma.bind fun r => fun st => match st.look r with
  | some (.int i) => .ok (some i) st
  | _ => .stuck) st0
def JO (X : Cx) (N : Ent) (W : WX) (o : Option Expr) (m : M (Option Int)) : Prop := PO X o (sem N W pO m)
theorem PO.weak {o : Option Expr} {t t' : TO} (h : PO X o t) (w : ∀ σ H Q, t' σ H Q → t σ H Q) : PO X o t' := ⟨fun pins s σ H Q I q => h.run pins s σ H Q I (w _ _ _ q)⟩
theorem jo_none : JO X N W none mNoPart := PO.weak po_none fun σ H Q ⟨L, as1, st, r, h⟩ => h L as1 none H r rfl .refl
theorem jo_some (ha : JE X N W e ma) : JO X N W (some e) (mPart ma) := by
  refine PO.weak (po_some ha) fun σ H Q ⟨L, as1, st, rel, h⟩ => ?_
  refine sem_mono (fin_bind (P1 := VRel) rel h) fun v H1 ⟨L3, as3, s3, rv, r3, v3, x3, f3⟩ => ?_
  split at f3
  · rename_i i e1
    exact ⟨i, (r3.look v3 e1).int, f3 L3 as3 _ H1 r3 rfl .refl⟩
  · exact f3.elim
def cutD {α : Type} (xs : List α) (lo hi : Option Int) : List α := (xs.drop (HT.sIx xs.length 0 lo)).take (HT.sIx xs.length xs.length hi - HT.sIx xs.length 0 lo)
@[simp] def sliceD (d : PyData) (lo hi : Option Int) : Option PyData := match d with
  | .list xs => some (.list (cutD xs lo hi))
  | .tuple xs => some (.tuple (cutD xs lo hi))
  | .str z => if z.length ≤ maxLen then some (.str (cutS z lo hi)) else none
  | _ => none
theorem Ats.cut {H : Hp} {vs : List V} {ds : List PyData} (h : Ats H vs ds) (lo hi : Option Int) : Ats H (cutV vs lo hi) (cutD ds lo hi) := by
  unfold cutV cutD
  rw [h.length]
  exact (h.drop _).take _
@[simp] def mSlice (ma : M RV) (ml mh : M (Option Int)) (st0 : ST) : R RV := (ma.bind fun a => ml.bind fun l => mh.bind fun h => fun st => outO ((st.look a).bind fun d => sliceD d l h) st) st0
def rSlAll (K : PySem.W.Frag) : V → Option Int → Option Int → Hp → VK → Prop := fun x l u H Q => rSlL K x l u H Q ∨ rSlA K x l u H Q ∨ rSlS x l u H Q
theorem sl_all : SlR X (rSlAll X.K) := SlR.or sl_list (SlR.or sl_tupA sl_str)
theorem je_slice {lo hi : Option Expr} {ml mh : M (Option Int)} {p2 : Pos} (ha : JE X N W a ma) (hl : JO X N W lo ml) (hh : JO X N W hi mh) : JE X N W (.Subscript a (.Slice lo hi none p2) pos) (mSlice ma ml mh) := by
  refine PE.weak (pe_slice sl_all ha hl hh) fun σ H Q ⟨L, as1, st, rel, h⟩ => ?_
  refine sem_mono (fin_bind (P1 := VRel) rel h) fun v H1 ⟨L3, as3, s3, rv3, r3, v3, x3, f3⟩ => ?_
  refine sem_mono (fin_bind (P1 := pO) r3 f3) fun l H2 ⟨L4, as4, s4, l4, r4, v4, x4, f4⟩ => ?_
  refine sem_mono (fin_bind (P1 := pO) r4 f4) fun u H3 ⟨L5, as5, s5, l5, r5, v5, x5, f5⟩ => ?_
  cases v4
  cases v5
  have v6 := (v3.ext x4).ext x5
  cases e1 : s5.look rv3 with
  | none => rw [e1] at f5; exact f5.elim
  | some d =>
    rw [e1] at f5
    simp only [Option.bind_some] at f5
    have q := r5.look v6 e1
    cases d with
    | none => exact f5.elim
    | bool b => exact f5.elim
    | int b => exact f5.elim
    | dict b => exact f5.elim
    | list ds =>
      obtain ⟨p, ws, rfl, hp, hs⟩ := q.list
      exact .inl ⟨p, ws, rfl, SqL.of hp, fun n nn => fin_alloc r5 f5 nn fun H' e sm => .lst e ((hs.cut l u).mono sm)⟩
    | tuple ds =>
      obtain ⟨p, ws, rfl, hp, hs⟩ := q.tuple
      refine .inr (.inl ⟨p, ws, rfl, SqT.of hp, fun w => ?_, fun _ n nn => fin_alloc r5 f5 nn fun H' e sm => .tup e ((hs.cut l u).mono sm)⟩)
      have ew : cutD ds l u = ds := by
        rw [hs.length] at w
        unfold cutD
        rw [w.1, w.2, List.drop_zero, Nat.sub_zero, List.take_length]
      have f6 : Fin N W VRel L5 as5 σ H3 (.ok (.dat (.tuple ds)) s5) Q := by
        have : sliceD (.tuple ds) l u = some (.tuple ds) := by simp only [sliceD, ew]
        rw [this] at f5
        exact f5
      cases q with
      | «at» q => exact fin_dat r5 f6 (Same.refl _) q
    | str z =>
      simp only [sliceD] at f5
      by_cases hz : z.length ≤ maxLen
      · rw [if_pos hz] at f5
        exact .inr (.inr ⟨z, q.str, small_max hz, fin_dat r5 f5 (Same.refl _) (.str _)⟩)
      · rw [if_neg hz] at f5; exact f5.elim
/-- xs.index(y), y there -/
def idxOf (d : PyData) : List PyData → Nat → Option Nat
  | [], _ => none
  | z :: r, n => if PyData.eqv z d = true then some n else idxOf d r (n + 1)
theorem idxOf_spec (d : PyData) : ∀ (ds : List PyData) (n j : Nat), idxOf d ds n = some j → ∃ (k : Nat) (z : PyData), j = n + k ∧ ds[k]? = some z ∧ PyData.eqv z d = true ∧ ∀ (m : Nat) (z' : PyData), m < k → ds[m]? = some z' → PyData.eqv z' d = false
  | [], n, j, h => by cases h
  | z :: r, n, j, h => by
    unfold idxOf at h
    by_cases q : PyData.eqv z d = true
    · rw [if_pos q] at h
      cases h
      exact ⟨0, z, rfl, rfl, q, fun m z' hm => absurd hm (Nat.not_lt_zero _)⟩
    · rw [if_neg q] at h
      obtain ⟨k, z1, h1, h2, h3, h4⟩ := idxOf_spec d r (n + 1) j h
      refine ⟨k + 1, z1, by omega, h2, h3, fun m z' hm hz => ?_⟩
      cases m with
      | zero =>
        rw [List.getElem?_cons_zero] at hz
        cases hz
        cases q2 : PyData.eqv z d with
        | true => exact absurd q2 q
        | false => rfl
      | succ m =>
        rw [List.getElem?_cons_succ] at hz
        exact h4 m z' (by omega) hz
@[simp] def indexD : List PyData → Option PyData
  | [.list ds, d] => if SeqAt.shaped (.list ds) = true ∧ SeqAt.shaped d = true then (idxOf d ds 0).bind fun j => some (.int (j : Nat)) else none
  | _ => none
@[simp] def mIndex (ma : M RV) (mr : M (List RV)) (st0 : ST) : R RV := (ma.bind fun a => fun st0 => match st0.look a with
  | some (.list _) => (mr.bind fun r => fun st => outO ((lookAll st (a :: r)).bind indexD) st) st0
  | _ => .stuck) st0
theorem je_index {apos cpos : Pos} (ho : JE X N W a ma) (ha : JA X N W [e] mr) (hu : X.A.units + 65 < cLine) (hbase : attributeBase a "index" X.env (eval a X.env) = eval a X.env := by rfl)
    (hfew : ((backTo cpos (starEach [e] X.env)).all (fun x => !x.1) && (backToKw cpos (keywordEach [] X.env)).all (fun x => x.1.isSome) && decide ([e].length + ([] : List Keyword).length + (if ([] : List Keyword).isEmpty then 0 else 1) < 30)) = true := by rfl)
    (hline : (apos.endLine == cpos.line) = true := by rfl) (hs : starEach [e] X.env = (false, eval e X.env) :: starEach [] X.env := by rfl) (hpl : (backTo cpos (starEach [] X.env)).any (·.1) = false := by rfl) :
    JE X N W (.Call (.Attribute a "index" apos) [e] [] cpos) (mIndex ma mr) := by
  refine PE.weak (pe_bm PySem.F.plainAttrs_list PySem.F.slot_list_index PySem.F.type_list_index (mt_indexD hu) ho ha hbase hfew hline hs hpl) fun σ H Q ⟨L, as1, st, rel, h⟩ => ?_
  refine sem_mono (fin_bind (P1 := VRel) rel h) fun v H1 ⟨L3, as3, s3, rv, r3, v3, x3, f3⟩ => ?_
  split at f3
  · rename_i ds0 e0
    obtain ⟨p, ws, ep, hp, hs⟩ := (r3.look v3 e0).list
    subst ep
    refine ⟨.inl ⟨rfl, _, SqL.of hp⟩, ?_⟩
    refine sem_mono (fin_bind (P1 := VRels) r3 f3) fun vs H2 ⟨L4, as4, s4, rs, r4, v4, x4, f4⟩ => ?_
    cases e1 : lookAll s4 (rv :: rs) with
    | none => rw [e1] at f4; exact f4.elim
    | some dd =>
      rw [e1] at f4
      simp only [Option.bind_some] at f4
      have pr := r4.lookAll (.cons (v3.ext x4) v4) e1
      unfold indexD at f4
      split at f4
      · rename_i ds d
        cases pr with
        | cons p1 t1 =>
          obtain ⟨y, rfl, hy⟩ := Paired.one t1
          split at f4
          · rename_i hsh
            cases e2 : idxOf d ds 0 with
            | none => rw [e2] at f4; exact f4.elim
            | some j =>
              rw [e2] at f4
              obtain ⟨k, z, h1, h2, h3, h4⟩ := idxOf_spec d ds 0 j e2
              have ek : j = k := by omega
              subst ek
              exact ⟨p, y, d, ds, j, z, rfl, rfl, p1.dp, hy.dp, hsh.1, hsh.2, h2, h3, h4, fin_dat r4 f4 (Same.refl _) (.int _)⟩
          · exact f4.elim
      · exact f4.elim
  · exact f3.elim

/-! ### len({x: True for x in e}) of ints -/
def nubI : List Int → List Int → List Int
  | [], acc => acc
  | n :: r, acc => nubI r (if n ∈ acc then acc else acc ++ [n])
@[simp] def mLenDC (i : Nat) (ma : M RV) (st0 : ST) : R RV := (ma.bind fun r => fun st => match st.look r with
  | some (.list ds) => (match intsOf ds with
    | some ns => if i < st.sl.length ∧ ns.length ≤ maxLen then .ok (.dat (.int (nubI ns []).length)) st else .stuck
    | none => .stuck)
  | _ => .stuck) st0
def kvOf (ns : List Int) : List (Key × V) := ns.map fun n => (.inl n, .bl true)
theorem putK_kvOf (ns : List Int) (n : Int) : putK (kvOf ns) (.inl n) (.bl true) = kvOf (if n ∈ ns then ns else ns ++ [n]) := by
  unfold putK
  have e1 : ((kvOf ns).any fun kv => decide (kv.1 = Sum.inl n)) = decide (n ∈ ns) := by
    unfold kvOf
    induction ns with
    | nil => simp
    | cons m r ih =>
      rw [List.map_cons, List.any_cons, ih]
      by_cases h : m = n
      · subst h; simp
      · have h2 : ¬ n = m := fun z => h z.symm
        simp [h, h2]
  rw [e1]
  by_cases h : n ∈ ns
  · rw [if_pos (by simpa using h), if_pos h]
    unfold kvOf
    rw [List.map_map]
    refine List.map_congr_left fun m hm => ?_
    dsimp only [Function.comp]
    split
    · rfl
    · rfl
  · rw [if_neg (by simpa using h), if_neg h]
    unfold kvOf
    rw [List.map_append]
    rfl
theorem nubI_step (ns : List Int) (acc : List Int) (k : Nat) (n : Int) (h : ns[k]? = some n) : nubI (ns.take (k + 1)) acc = (if n ∈ nubI (ns.take k) acc then nubI (ns.take k) acc else nubI (ns.take k) acc ++ [n]) := by
  induction ns generalizing acc k with
  | nil => simp at h
  | cons m r ih =>
    cases k with
    | zero =>
      rw [List.getElem?_cons_zero] at h
      cases h
      rfl
    | succ k =>
      rw [List.getElem?_cons_succ] at h
      exact ih _ k h
theorem nubI_len (ns : List Int) : ∀ acc : List Int, (nubI ns acc).length ≤ acc.length + ns.length := by
  induction ns with
  | nil => intro acc; exact Nat.le_refl _
  | cons m r ih =>
    intro acc
    refine Nat.le_trans (ih _) ?_
    split
    · rw [List.length_cons]; omega
    · simp only [List.length_append, List.length_cons, List.length_nil]; omega
theorem je_lenDC {i : Nat} {x : Str} {px px2 p p1 p2 : Pos} {k0 : Nat} {scope : Scope} {own : List (Str × Nat)} (hN : X.N.Nodup) (hm : X.mg "len" = none) (he : JE X N W e ma) (ok : BlkOk X.N X.env.scope scope own)
    (hg : ∀ (s : Shared) (H : Hp) (C : Addr) (cl : List (Str × Addr)) (fp : List Addr), PG (X.blk s H scope (compEnvC scope cl C X.env) fp) (.Name x px) (gName i))
    (hk : ∀ (s : Shared) (H : Hp) (C : Addr) (cl : List (Str × Addr)) (fp : List Addr), PE (X.blk s H scope (compEnvC scope cl C X.env) fp) (.Name x px2) (tVar i))
    (hi : i ∈ own.map (·.2) := by decide) (hc : X.calm = true := by rfl) (hgl : Gl X "len" := by rfl) (hfs : ∀ z, foldedSetIterable e X.env z = pure z := by intro _; rfl)
    (h1 : starEach [.DictComp (.Name x px2) (.Constant (.bool true) k0 p1) [⟨.Name x px, e, [], 0⟩] scope p2] X.env = (false, eval (.DictComp (.Name x px2) (.Constant (.bool true) k0 p1) [⟨.Name x px, e, [], 0⟩] scope p2) X.env) :: starEach [] X.env := by rfl) :
    JE X N W (.Call (.Name "len" p) [.DictComp (.Name x px2) (.Constant (.bool true) k0 p1) [⟨.Name x px, e, [], 0⟩] scope p2] [] pos) (mLenDC i ma) := by
  refine PE.weak (pe_callB call_lenD hgl hm PySem.boot_len (pa_cons (pe_dc hc hN (pi_seq he) ok hg (fun _ _ _ _ _ => pts_nil) hk (fun _ _ _ _ _ => pe_bl) hfs) pa_nil h1) (by decide) (by decide) h1) fun σ H Q ⟨L, as1, st, rel, h⟩ => ?_
  refine sem_mono (fin_bind (P1 := VRel) rel h) fun v H1 ⟨L3, as3, s3, rv, r3, v3, x3, f3⟩ => ?_
  split at f3
  · rename_i ds e1
    split at f3
    · rename_i ns e2
      split at f3
      · rename_i hl
        obtain ⟨p, ws, rfl, hp, hs⟩ := (r3.look v3 e1).list
        rw [intsOf_eq e2] at hs
        rw [hs.ints] at hp
        refine .inl ⟨p, rfl, ⟨_, SqL.of hp⟩, fun D nD => ?_⟩
        have npD : p ≠ D := ne_of_none hp nD
        refine ⟨fun k m Hc => m = ns.length - k ∧ k ≤ ns.length ∧ Hc = upd H1 D (.dK (kvOf (nubI (ns.take k) []))), ⟨_, rfl, Nat.zero_le _, rfl⟩, ?_⟩
        rintro k m Hc ⟨rfl, hk', rfl⟩
        have hpc : (upd H1 D (.dK (kvOf (nubI (ns.take k) [])))) p = some (.lst (ns.map V.int)) := by rw [upd_ne npD]; exact hp
        by_cases hlt : k < ns.length
        · have hget : ns[k]? = some ns[k] := List.getElem?_eq_getElem hlt
          refine .inr ⟨⟨_, .int ns[k], SqL.of hpc, by rw [List.getElem?_map, hget]; rfl⟩, fun H' => H' = upd H1 D (.dK (kvOf (nubI (ns.take (k + 1)) []))), fun H' q => ⟨_, by omega, rfl, hlt, q⟩, fun y H' hy => ?_⟩
          obtain ⟨rfl, hy⟩ := hy
          have ey : y = .int ns[k] := by
            have := hy _ (SqL.of hpc)
            rw [List.getElem?_map, hget] at this
            exact (Option.some.inj this).symm
          subst ey
          refine ⟨by rw [wipe_set hi, wipe_wipe], ?_⟩
          unfold tYes
          dsimp only
          rw [if_pos rfl]
          refine ⟨.int ns[k], List.getElem?_set_self (by rw [wipe_len, ← r3.len]; exact hl.1), ?_⟩
          refine ⟨kvOf (nubI (ns.take k) []), .inl ns[k], rfl, upd_same, ?_, ?_⟩
          · have h1 := nubI_len (ns.take k) []
            rw [List.length_take] at h1
            have h2 : (kvOf (nubI (ns.take k) [])).length = (nubI (ns.take k) []).length := List.length_map _
            have hm : maxLen < sizeLine := by decide
            have := hl.2
            simp only [List.length_nil] at h1
            omega
          · show upd (upd H1 D _) D _ = _
            rw [upd_upd, putK_kvOf, nubI_step ns [] k ns[k] hget]
        · have ek : k = ns.length := by omega
          subst ek
          rw [List.take_length]
          refine .inl ⟨⟨_, SqL.of (by rw [List.take_length] at hpc; exact hpc), by rw [List.length_map]; exact Nat.le_refl _⟩, D, _, rfl, upd_same, ?_⟩
          have h2 : (kvOf (nubI ns [])).length = (nubI ns []).length := List.length_map _
          rw [h2]
          exact fin_dat r3 f3 (same_new nD) (.int _)
      · exact f3.elim
    · exact f3.elim
  · exact f3.elim

/-! ### a, b = [], x;  a, b = e, [..] -/
@[simp] def mParLV (i j k : Nat) (st : ST) : R Flw := match st.sl[k]? with
  | some (.dat d) => if i ≠ j ∧ i < st.sl.length ∧ j < st.sl.length then .ok .nx { st with sl := (st.sl.set i (.own [])).set j (.dat d) } else .stuck
  | _ => .stuck
theorem js_parLV {i j k : Nat} {x y z : Str} {px py pz pl pt pt2 : Pos} {kt k2 : Nat} (hN : X.N.Nodup) (hw : swappedStores [.Tuple [.Name x px, .Name y py] kt pt] (.Tuple [.List [] pl, .Name z pz] k2 pt2) X.env = pure (some [x, y]) := by rfl) (hc : X.calm = true := by rfl) (hi : X.N[i]? = some x := by rfl) (hj : X.N[j]? = some y := by rfl) (hij : i ≠ j := by decide)
    (hx : X.env.scope.names.lookup x = some .local := by rfl) (hy : X.env.scope.names.lookup y = some .local := by rfl) (hk : X.N[k]? = some z := by rfl) (hz : Vis X.env.scope z := by first | exact Or.inl rfl | exact Or.inr (Or.inl rfl) | exact Or.inr (Or.inr rfl)) (hzd : (z == ("__debug__" : Str)) = false := by decide) (hzc : (z == ("__classdict__" : Str)) = false := by decide)
    (hs : swapsWithSole [.Tuple [.Name x px, .Name y py] kt pt] (.Tuple [.List [] pl, .Name z pz] k2 pt2) pos.line X.env = pure false := by rfl) (hs1 : starEach [.List [] pl, .Name z pz] X.env = (false, eval (.List [] pl) X.env) :: starEach [.Name z pz] X.env := by rfl) (hs2 : starEach [.Name z pz] X.env = (false, eval (.Name z pz) X.env) :: starEach [] X.env := by rfl) :
    JS X N W (.Assign [.Tuple [.Name x px, .Name y py] kt pt] (.Tuple [.List [] pl, .Name z pz] k2 pt2) pos) (mParLV i j k) := by
  refine PS.weak (ps_par hc hN hi hj hij hx hy (pa_cons (pe_lst pa_nil) (pa_cons (pe_var hk hz hzd hzc) pa_nil hs2) hs1) hw hs) fun D σ H ⟨L, as1, st, rel, h⟩ => ?_
  unfold mParLV at h
  split at h
  · rename_i d e1
    split at h
    · rename_i hl
      refine ⟨Nat.zero_le _, fun p np => ?_⟩
      obtain ⟨v, hv, ha⟩ := rel.dat k d e1
      refine ⟨v, hv, _, _, rfl, ?_⟩
      have r1 := rel.setOwn (i := i) (by rw [← rel.len]; exact hl.2.1) np (.nil : Ats (mask H L) [] [])
      have r2 := r1.setDat (i := j) (v := v) (d := d) (by rw [List.length_set, ← rel.len]; exact hl.2.2) (ha.mono (same_guard np))
      exact h _ as1 _ _ r2 ⟨same_guard np, .refl⟩
    · exact h.elim
  · exact h.elim
@[simp] def mParEL (i j : Nat) (ma : M RV) (mr : M (List RV)) (st0 : ST) : R Flw := (ma.bind fun a => mr.bind fun r => fun st => match escAll (a :: r) st with
  | some (x :: q, st') => (match datAll q, setV i st' x with
    | some ds, some s5 => if ds.length ≤ 1000 ∧ i ≠ j ∧ j < s5.sl.length then .ok .nx { s5 with sl := s5.sl.set j (.own ds) } else .stuck
    | _, _ => .stuck)
  | _ => .stuck) st0
theorem js_parEL {i j : Nat} {x y : Str} {px py pl pt pt2 : Pos} {kt k2 : Nat} (hN : X.N.Nodup) (ha : JE X N W a ma) (hb : JA X N W es mr) (hw : swappedStores [.Tuple [.Name x px, .Name y py] kt pt] (.Tuple [a, .List es pl] k2 pt2) X.env = pure (some [x, y]) := by rfl) (hc : X.calm = true := by rfl) (hi : X.N[i]? = some x := by rfl) (hj : X.N[j]? = some y := by rfl) (hij : i ≠ j := by decide)
    (hx : X.env.scope.names.lookup x = some .local := by rfl) (hy : X.env.scope.names.lookup y = some .local := by rfl)
    (hs : swapsWithSole [.Tuple [.Name x px, .Name y py] kt pt] (.Tuple [a, .List es pl] k2 pt2) pos.line X.env = pure false := by rfl) (hs1 : starEach [a, .List es pl] X.env = (false, eval a X.env) :: starEach [.List es pl] X.env := by rfl) (hs2 : starEach [.List es pl] X.env = (false, eval (.List es pl) X.env) :: starEach [] X.env := by rfl) :
    JS X N W (.Assign [.Tuple [.Name x px, .Name y py] kt pt] (.Tuple [a, .List es pl] k2 pt2) pos) (mParEL i j ma mr) := by
  refine PS.weak (ps_par hc hN hi hj hij hx hy (pa_cons ha (pa_cons (pe_lst hb) pa_nil hs2) hs1) hw hs) fun D σ H ⟨L, as1, st, rel, h⟩ => ?_
  refine sem_mono (finS_bindX (P1 := VRel) rel h) fun v H1 ⟨L3, as3, s3, rv, r3, v3, x3, f3⟩ => ?_
  refine sem_mono (finS_bindX (P1 := VRels) r3 f3) fun vs H2 ⟨L4, as4, s4, rs, r4, v4, x4, f4⟩ => ?_
  cases e1 : escAll (rv :: rs) s4 with
  | none => rw [e1] at f4; exact f4.elim
  | some pq =>
    obtain ⟨qs, s5⟩ := pq
    rw [e1] at f4
    obtain ⟨L5, r5, x5, v5, n5⟩ := Rel.escAll r4 (.cons (v3.ext x4) v4) e1
    cases qs with
    | nil => exact f4.elim
    | cons q qs =>
      dsimp only at f4
      cases v5 with
      | cons h1 t1 =>
        split at f4
        · rename_i ds s6 e2 e3
          split at f4
          · rename_i hl
            have hat := VRels.dats t1 e2
            refine ⟨Nat.le_of_lt (small1000 (by rw [hat.length]; exact hl.1)), fun p np => ⟨_, _, rfl, ?_⟩⟩
            have hb1 : VRel L5 as4 [] H2 v q := by
              cases q with
              | dat d => exact h1
              | hdl k => exact h1
              | bor k => exact absurd rfl (n5 _ List.mem_cons_self k)
            have r6 := r5.setV hb1 e3
            have r7 := r6.setOwn (i := j) (by rw [← r6.len]; exact hl.2.2) np hat
            exact f4 _ as4 _ _ r7 (x5.trans ⟨same_guard np, .refl⟩)
          · exact f4.elim
        · exact f4.elim
end
end JL
/-! J10: the draws, the law's frame, errors raised. -/
namespace JL
open PySem PySem.Spec PyProof.Rows L2

/-! ### the draws -/
def drawAt (ns : List Int) (c : Int) : Nat := ((c + 1) % (ns.length : Int)).toNat
def drawVal (ns : List Int) (c lim : Int) : Int :=
  let cell := ns.getD (drawAt ns c) 0
  if 1000000000000000000 ≤ cell then cell % lim
  else
    let m := ((cell + 104729 * (c + 1)) % 4294967291) ^ 5 % 4294967279
    (m / 64 * 69621 + m) % 4294967231 / 8 % lim
def drawRow (ns : List Int) (c lim : Int) : List Int :=
  let cell := ns.getD (drawAt ns c) 0
  if 1000000000000000000 ≤ cell then ns.set (drawAt ns c) (cell / lim) else ns
theorem drawRow_len (ns : List Int) (c lim : Int) : (drawRow ns c lim).length = ns.length := by
  unfold drawRow
  dsimp only
  split
  · exact List.length_set ..
  · rfl
theorem drawVal_nonneg (ns : List Int) (c lim : Int) (h : 0 < lim) : 0 ≤ drawVal ns c lim := by
  unfold drawVal
  dsimp only
  split
  · exact Int.emod_nonneg _ (by omega)
  · exact Int.emod_nonneg _ (by omega)
theorem drawVal_lt (ns : List Int) (c lim : Int) (h : 0 < lim) : drawVal ns c lim < lim := by
  unfold drawVal
  dsimp only
  split
  · exact Int.emod_lt_of_pos _ h
  · exact Int.emod_lt_of_pos _ h
/-- _law_draw(draws, limit) -/
def fsDraw : FS := fun args gs => match args with
  | [.hdl j, .dat (.int lim)] => (match gs[j]? with
    | some (.drw ns c) => if 0 < ns.length ∧ ns.length ≤ 1000 ∧ 0 < lim ∧ lim < 1073741824 then .ok (.dat (.int (drawVal ns c lim))) (gs.set j (.drw (drawRow ns c lim) (c + 1))) else .stuck
    | _ => .stuck)
  | _ => .stuck
theorem fsDraw_inv (args : List RV) (gs : List GO) : fsDraw args gs = .stuck ∨ ∃ (j : Nat) (lim : Int) (ns : List Int) (c : Int), args = [.hdl j, .dat (.int lim)] ∧ gs[j]? = some (.drw ns c) ∧ (0 < ns.length ∧ ns.length ≤ 1000 ∧ 0 < lim ∧ lim < 1073741824) ∧
    fsDraw args gs = .ok (.dat (.int (drawVal ns c lim))) (gs.set j (.drw (drawRow ns c lim) (c + 1))) := by
  unfold fsDraw
  split
  · split
    · rename_i j lim _ ns c ej
      split
      · rename_i hc
        exact .inr ⟨j, lim, ns, c, rfl, ej, hc, rfl⟩
      · exact .inl rfl
    · exact .inl rfl
  · exact .inl rfl
theorem GRel.put {cls : Cl} {L : List Addr} {as : List (List Addr)} {gs : List GO} {H H' : Hp} (g : GRel cls L as gs H) {j : Nat} {fp : List Addr} {go : GO} (f : as[j]? = some fp) (out : ∀ b, b ∉ fp → H' b = H b) (ok : GOk cls (mask H L) H' fp go) : GRel cls L as (gs.set j go) H' := by
  have inL : ∀ b ∈ fp, b ∈ L := g.gin fp (List.mem_of_getElem? f)
  have sm : Same (mask H L) (mask H' L) := fun b o h => by
    obtain ⟨e, n⟩ := of_mask h
    exact mask_of (by rw [out b fun z => n (inL b z)]; exact e) n
  exact {
    glen := by rw [List.length_set]; exact g.glen
    gok := fun k go' fp' e q => by
      rcases set_get e with ⟨e1, e2, _⟩ | ⟨n, e⟩
      · subst e1; subst e2
        rw [f] at q
        cases q
        exact ok.mono sm fun _ _ _ z => z
      · refine (g.gok k go' fp' e q).mono sm fun b hb o ho => ?_
        rw [out b fun z => nodup_flatten_apart g.gnd q f n hb z]
        exact ho
    gin := g.gin
    gnd := g.gnd }
/-- behind _law_draw -/
theorem draw_end {cls : Cl} {as0 : List (List Addr)} {L0 : List Addr} {H : Hp} {gs : List GO} {j : Nat} {a b : Addr} {ns ns' : List Int} {c c' : Int} (live : (∀ p ∈ L0, H p ≠ none) ∧ ∀ p ∈ L0, ∀ ws, H p ≠ some (.tup ws)) (g : GRel cls L0 as0 gs H) (f : as0[j]? = some [a, b]) :
    Stp as0 L0 H as0 L0 (upd (upd H a (.lst [.ref b, .int c'])) b (.lst (ns'.map V.int))) ∧ (a ≠ b → GRel cls L0 as0 (gs.set j (.drw ns' c')) (upd (upd H a (.lst [.ref b, .int c'])) b (.lst (ns'.map V.int)))) := by
  have mem : ∀ p ∈ [a, b], p ∈ as0.flatten := fun p hp => List.mem_flatten.mpr ⟨_, List.mem_of_getElem? f, hp⟩
  have out : ∀ p, p ∉ [a, b] → upd (upd H a (.lst [.ref b, .int c'])) b (.lst (ns'.map V.int)) p = H p := fun p hp => by
    rw [upd_ne (fun z => hp (by rw [z]; simp)), upd_ne (fun z => hp (by rw [z]; simp))]
  refine ⟨⟨fun p h => h, fun p h => .inl h, fun p h => ?_, fun p o h n => ?_, fun p h => .inl h, .refl, fun p h ws => ?_⟩, fun nab => g.put f out ⟨a, b, rfl, ?_, upd_same⟩⟩
  · by_cases z : p = b
    · subst z; rw [upd_same]; exact fun z => nomatch z
    · rw [upd_ne z]
      by_cases y : p = a
      · subst y; rw [upd_same]; exact fun z => nomatch z
      · rw [upd_ne y]; exact live.1 p h
  · rw [out p fun z => n (mem p z)]
    exact h
  · by_cases z : p = b
    · subst z; rw [upd_same]; exact fun z => nomatch z
    · rw [upd_ne z]
      by_cases y : p = a
      · subst y; rw [upd_same]; exact fun z => nomatch z
      · rw [upd_ne y]; exact live.2 p h ws
  · rw [upd_ne nab, upd_same]
theorem drw_ne {cls : Cl} {as0 : List (List Addr)} {L0 : List Addr} {H : Hp} {gs : List GO} {j : Nat} {a b : Addr} (g : GRel cls L0 as0 gs H) (f : as0[j]? = some [a, b]) : a ≠ b := by
  have nd := g.gnd
  have h1 : as0 = as0.take j ++ [a, b] :: as0.drop (j + 1) := by
    obtain ⟨h, e⟩ := List.getElem?_eq_some_iff.mp f
    rw [← e, List.getElem_cons_drop, List.take_append_drop]
  rw [h1, List.flatten_append, List.flatten_cons] at nd
  have := (List.nodup_append.mp (List.nodup_append.mp nd).2.1).1
  intro z
  subst z
  simp at this

/-! ### the law -/
/-- what _law_start(script) gives -/
def startRow (ns : List Int) : List Int := if ns = [] then [0] else ns
def spStart (K : PySem.W.Frag) : Sp := fun vs H Q _ => ∃ (a : Addr) (ns : List Int), vs = [.ref a] ∧ SqL K H a (ns.map V.int) ∧ ns.length ≤ 63 ∧
  ∀ q p H', Same H H' → H q = none → H p = none → p ≠ q → H' q = some (.lst ((startRow ns).map V.int)) → H' p = some (.lst [.ref q, .int 0]) → Q (.ref p) H'
def spLaw (K : PySem.W.Frag) : Sp := fun vs H Q _ => ∃ (a : Addr) (ns : List Int), vs = [.ref a] ∧ SqL K H a (ns.map V.int) ∧ ns.length ≤ 63 ∧ ∀ H', Q (.bl true) H'
def lawStart (n i : Nat) (ns : List Int) : ST := ⟨(List.replicate n SV.un).set i (.hdl 0), [.drw ns 0]⟩
theorem rel_law {cls : Cl} {H H' : Hp} {p q : Addr} {ms : List Int} {σ : L2.St} {n i : Nat} (sm : Same H H') (hq : H q = none) (hp : H p = none) (npq : p ≠ q) (hq' : H' q = some (.lst (ms.map V.int))) (hp' : H' p = some (.lst [.ref q, .int 0])) (hl : σ.length = n) (hi : i < n) :
    Rel ⟨[], [], H, cls⟩ [p, q] [[p, q]] (lawStart n i ms) (σ.set i (some (.ref p))) H' := by
  have sl : ∀ (k : Nat) (x : SV), (lawStart n i ms).sl[k]? = some x → x = .un ∨ (k = i ∧ x = .hdl 0) := fun k x e => by
    rcases set_get e with ⟨e1, e2, _⟩ | ⟨_, e⟩
    · exact .inr ⟨e1, e2⟩
    · exact .inl (List.eq_of_mem_replicate (List.mem_of_getElem? e))
  exact {
    len := by
      show ((List.replicate n SV.un).set i (.hdl 0)).length = _
      rw [List.length_set, List.length_replicate, List.length_set, hl]
    l0 := fun a h => absurd h (by simp)
    sub := fun a h => absurd h (by simp)
    new := fun a h => by
      right
      rcases List.mem_cons.mp h with rfl | h
      · exact hp
      · rw [List.mem_singleton.mp h]; exact hq
    live := fun a h => by
      rcases List.mem_cons.mp h with rfl | h
      · rw [hp']; exact fun z => nomatch z
      · rw [List.mem_singleton.mp h, hq']; exact fun z => nomatch z
    frame := fun b o h _ => sm _ _ h
    dat := fun k d e => by
      rcases sl k _ e with z | ⟨_, z⟩ <;> cases z
    own := fun k d e => by
      rcases sl k _ e with z | ⟨_, z⟩ <;> cases z
    owd := fun k l d d' _ e _ => by
      rcases sl k _ e with z | ⟨_, z⟩ <;> cases z
    hdl := fun k j e => by
      rcases sl k _ e with z | ⟨z1, z⟩
      · cases z
      · cases z
        subst z1
        exact ⟨p, [q], rfl, List.getElem?_set_self (by omega)⟩
    g := {
      glen := rfl
      gok := fun j go fp e f => by
        cases j with
        | zero =>
          cases e
          cases f
          exact ⟨p, q, rfl, hp', hq'⟩
        | succ j => simp [lawStart] at e
      gin := fun fp h b hb => by
        have : fp = [p, q] := by simpa using h
        subst this
        exact hb
      gnd := by simp [npq] }
    gnew := fun b hb => by
      right
      have hb : b ∈ [p, q] := by simpa using hb
      rcases List.mem_cons.mp hb with rfl | hb
      · exact hp
      · rw [List.mem_singleton.mp hb]; exact hq
    hd := ⟨Nat.zero_le _, fun j a fp h => by simp at h⟩
    nt := fun a h ws => by
      rcases List.mem_cons.mp h with rfl | h
      · rw [hp']; exact fun z => nomatch z
      · rw [List.mem_singleton.mp h, hq']; exact fun z => nomatch z
    ent := fun a h => by simp at h }
section
variable {P : Program} {w : World} {K : PySem.W.Frag} {mg : Str → Option Value} {base : Heap}
theorem law_ok {x qual : Str} {st s0 : Stmt} {rest : List Stmt} {f : Addr} {fd : FuncData} {Nn : List Str} {k i : Nat} {mb : M Flw} (cls : Cl) (F : Fun K x qual st f fd) (S : FnScope Nn ["script"] (defScope st)) (hb : defBody st = s0 :: rest) (hi : i < Nn.length)
    (h0 : ∀ (cdv : Value) (A : Around) (outer : List Env) (s : Shared) (H : Hp) (E : XK), Room k (A.deeper (envOfC qual (defScope st) s.heap.objs.size f cdv)) →
      PS (cxOf (L2.CX P w) P w K mg base Nn qual (defScope st) f cdv A outer s H E) s0 (tAsg (tCallS (spStart K) (WE fun c d _ H' => E c d H') (tCons (tVar 0) tNil)) (gName i)))
    (hbody : ∀ (cdv : Value) (A : Around) (outer : List Env) (s : Shared) (H : Hp) (E : XK), Room k (A.deeper (envOfC qual (defScope st) s.heap.objs.size f cdv)) →
      JSs (cxOf (L2.CX P w) P w K mg base Nn qual (defScope st) f cdv A outer s H E) ⟨[], [], H, cls⟩ (fun c d _ H' => E c d H') rest mb)
    (hrun : ∀ ns : List Int, 0 < ns.length → ns.length ≤ 63 → ∃ st', mb (lawStart Nn.length i ns) = .ok (.ret (.dat (.bool true))) st') :
    FnOk P w K mg base (L2.CX P w) (k + 1) f fd ["script"] (spLaw K) := by
  refine F.okX S (fun vs H Q E h => ?_) fun cdv A outer s H vs Q E hr h => ?_
  · obtain ⟨a, ns, rfl, _⟩ := h
    rfl
  · obtain ⟨a, ns, rfl, hS, hl, q⟩ := h
    rw [hb]
    refine ⟨_, pss_cons (h0 cdv A outer s H E hr) (hbody cdv A outer s H E hr), ?_⟩
    refine ⟨.ref a, rfl, a, ns, rfl, hS, hl, fun q' p H1 sm hq hp npq hq1 hp1 => ?_⟩
    have hl2 : 0 < (startRow ns).length ∧ (startRow ns).length ≤ 63 := by
      unfold startRow
      split
      · exact ⟨by decide, by decide⟩
      · rename_i hne
        refine ⟨?_, hl⟩
        cases ns with
        | nil => exact absurd rfl hne
        | cons x r => exact Nat.succ_pos _
    obtain ⟨st', e⟩ := hrun (startRow ns) hl2.1 hl2.2
    have hnl : 1 ≤ Nn.length := by
      have := congrArg List.length S.pre
      rw [List.length_take] at this
      simp only [List.length_cons, List.length_nil] at this
      omega
    refine ⟨_, _, _, rel_law (ms := startRow ns) (n := Nn.length) (i := i) sm hq hp npq hq1 hp1 ?_ hi, ?_⟩
    · show (L2.start Nn [V.ref a]).length = _
      unfold L2.start
      rw [List.length_append, List.length_map, List.length_replicate]
      simp only [List.length_cons, List.length_nil]
      omega
    · rw [e]
      intro L' as1' σ' v H' r hv _
      have hv' : At (mask H' L') v (.bool true) := hv
      cases hv'
      exact q _
end
theorem fn_stuck {P : Program} {w : World} {K : PySem.W.Frag} {mg : Str → Option Value} {base : Heap} {k n : Nat} {f : Addr} {fd : FuncData} {ps : List Str} {cls : Cl} : FnOk P w K mg base (L2.CX P w) k f fd ps (spF cls n fun _ _ => .stuck) := by
  have no : ∀ vs H Q E, ¬ spF cls n (fun _ _ => .stuck) vs H Q E := fun vs H Q E ⟨_, _, _, _, _, _, _, _, h⟩ => h
  exact ⟨fun vs H Q E h => absurd h (no vs H Q E), fun A outer s H args us vs Q E _ _ _ _ h => absurd h (no vs H Q E)⟩
theorem dps_ints {K : PySem.W.Frag} {H : Hp} : ∀ ns : List Int, DpAll K H (ns.map V.int) (ns.map .int)
  | [] => .nil
  | n :: r => .cons (.int n) (dps_ints r)
theorem lay_ints : ∀ ns : List Int, PyData.canLayAll0 (ns.map .int) = true
  | [] => by simp [PyData.canLayAll0]
  | n :: r => by simp [PyData.canLayAll0, PyData.canLay0, lay_ints r]
theorem depth_ints : ∀ ns : List Int, PyData.depthAll (ns.map .int) ≤ 1
  | [] => by simp [PyData.depthAll]
  | n :: r => by
    have := depth_ints r
    simp only [List.map_cons, PyData.depthAll, PyData.depth]
    omega
theorem shaped_ints (ns : List Int) : SeqAt.shaped (.list (ns.map .int)) = true := by
  have h := depth_ints ns
  unfold SeqAt.shaped
  rw [Bool.and_eq_true]
  refine ⟨?_, decide_eq_true ?_⟩
  · simp only [PyData.canLay0]
    exact lay_ints ns
  · simp only [PyData.depth]
    omega
/-! ### what the top leaves -/
/-- a def that stands in the module under its own name -/
def Def (K : PySem.W.Frag) (mg : Str → Option Value) (x : Str) (st : Stmt) (ps : List Str) : Prop := ∃ (f : Addr) (fd : FuncData), Fun K x x st f fd ∧ mg x = some (.ref f) ∧ ∀ us : List Value, us.length = ps.length → bindArgs fd ⟨us, []⟩ = pure (ps.zip us)
theorem def_mk {K : PySem.W.Frag} {h : Heap} {mg : Str → Option Value} {x : Str} {st : Stmt} {ps : List Str} {f : Addr} {oc kV dc pm cd ct : Value} {od an : Option Addr} {sl : Array (Option Value)} (X : K.In h) (G : h.Ns mainGlobals mg) (a : PySem.W.nsIn K mainGlobals x = some (some (.ref f)))
    (l : K.lookup f = some ⟨oc, od, .func (PySem.W.fnOf x x (defArgs st) (defBody st) (defScope st) .none kV dc pm an cd ct), sl⟩) (c : PySem.W.codeIn K cd x = true) (k : PySem.W.keepIn K (.ref f) = true)
    (hb : ∀ (kV doc pm : Value) (an : Option Addr) (cdv ct : Value) (us : List Value), us.length = ps.length → bindArgs (PySem.W.fnOf x x (defArgs st) (defBody st) (defScope st) .none kV doc pm an cdv ct) ⟨us, []⟩ = pure (ps.zip us)) : Def K mg x st ps := by
  have F := fun_mk (st := st) l c k
  exact ⟨f, _, F, PySem.W.mg_of X G a, hb _ _ _ _ _ _⟩
theorem je_globC {X : Cx} {N : Ent} {W : WX} {pos : Pos} {x : Str} {i : Int} (hm : ∃ t, X.mg x = some (.int i t)) (hg : Gl X x := by rfl) (hd : (x == ("__debug__" : Str)) = false := by decide) : JE X N W (.Name x pos) (mC (.int i)) := by
  obtain ⟨t, h⟩ := hm
  exact je_globI h ⟨t, rfl⟩ hg hd
theorem binds_law {fd : FuncData} {x : Str} (h : ∀ us : List Value, us.length = [x].length → bindArgs fd ⟨us, []⟩ = pure ([x].zip us)) (s : Shared) (v : Value) : BindsTo s fd ⟨[v], []⟩ [(x, v)] := .of_eq (h [v] rfl)
@[simp] def addI : PyData → PyData → Option PyData
  | .int i, .int j => some (.int (i + j))
  | _, _ => none
theorem pure_iadd : Pure2 (rI0 fun i j => .int (i + j)) addI := by
  intro x y H L Q d e g live hx hy he k
  unfold addI at he
  split at he
  · cases he
    exact ⟨_, _, hx.int, hy.int, k _ _ (Same.refl _) (.int _)⟩
  · cases he
theorem hu65 {A : Around} {k : Nat} (hr : Room k A) : A.units + 65 < cLine := by
  have := hr.un
  omega
abbrev Kof {K : PySem.W.Frag} {h : Heap} (_ : K.In h) : PySem.W.Frag := K
/-- the end of a law row -/
theorem walk {l : PySem.W.OpenLaw} {q : Program} {loose : List Str} {XP : (Str → Option Value) → Heap → Prop} {YP : World → Heap → Prop} {d : DefRec} {K : Params → PySem.W.Frag} {k : Nat} (hn : l.most = some 63) (hdf : d.params.defaults = []) (hr : Room k callerA)
    (hY : ∀ (w : World) (h : Heap), YP w h → (K w.params).In h)
    (F : ∀ (w : World) (mg : Str → Option Value) (fa : Addr) (h : Heap), (K w.params).In h → h.Ns mainGlobals mg → mg d.name = some (.ref fa) →
      ∃ fd : FuncData, (∀ (s : Shared) (u : Value), BindsTo s fd ⟨[u], []⟩ [("script", u)]) ∧ ∀ base : Heap, (K w.params).In base → base.Ns mainGlobals mg → FnOk l.prog w (K w.params) mg base (L2.CX l.prog w) k fa fd ["script"] (spLaw (K w.params))) :
    PySem.W.WalkO q loose XP YP l.row.toRowW d [] (fun f vs => PySem.call f vs) :=
  L2.walk_of (n := 63) (k := k) (x := "script") (CX := fun w => L2.CX l.prog w) (sp := fun w => spLaw (K w.params)) hn (by decide) hdf hr hY F (fun _ _ a ns hl _ hS => ⟨a, ns, rfl, hS, hl, fun _ => rfl⟩)
    fun w H s e s' h => by
      obtain ⟨_, _, _, _, _, _, _, _, _, _, _, _, z⟩ := h
      exact z
end JL
/-! J11: trees as data; loops and comprehensions in plain words. -/
namespace JL
open PySem L2

/-! ### comprehensions -/
def notOwn (i : Nat) (sl : List SV) : Bool := match sl[i]? with
  | some (.own _) => false
  | _ => true
theorem set_back {sl : List SV} {i : Nat} (h : notOwn i sl = true) : sl.set i (keepSV sl[i]?) = sl := by
  by_cases hi : i < sl.length
  · have e : sl[i]? = some sl[i] := List.getElem?_eq_getElem hi
    unfold notOwn at h
    rw [e] at h ⊢
    have : keepSV (some sl[i]) = sl[i] := by
      cases q : sl[i] with
      | un => rfl
      | dat d => rfl
      | hdl j => rfl
      | own ds => rw [q] at h; cases h
    rw [this]
    exact List.set_getElem_self hi
  · exact List.set_eq_of_length_le (by omega)
/-- a comprehension whose parts leave the state as it was -/
theorem comp_pure (i : Nat) (tt : M Bool) (el : M RV) (p : PyData → Bool) (f : PyData → PyData) (its : List PyData) (sl : List SV) (gs : List GO) (hi : i < sl.length) (ho : notOwn i sl = true) (hk : okH gs.length (sl.set i .un) = true) (hlen : its.length ≤ 100000)
    (h : ∀ d ∈ its, ∀ acc, tt ⟨sl.set i (.dat d), gs ++ [.acc acc]⟩ = .ok (p d) ⟨sl.set i (.dat d), gs ++ [.acc acc]⟩ ∧ (p d = true → el ⟨sl.set i (.dat d), gs ++ [.acc acc]⟩ = .ok (.dat (f d)) ⟨sl.set i (.dat d), gs ++ [.acc acc]⟩)) :
    compAll [i] (putDat i) tt el its ⟨sl, gs⟩ = .ok (.dat (.list ((its.filter p).map f))) ⟨sl, gs⟩ := by
  have run : ∀ (l : List PyData) (acc : List PyData), (∀ d ∈ l, d ∈ its) → acc.length + l.length ≤ 100000 → compM [i] (putDat i) tt el gs.length l ⟨wipeS [i] sl, gs ++ [.acc acc]⟩ = some ⟨wipeS [i] sl, gs ++ [.acc (acc ++ (l.filter p).map f)]⟩ := by
    intro l
    induction l with
    | nil => intro acc _ _; simp [compM]
    | cons d r ih =>
      intro acc hm hl
      obtain ⟨h1, h2⟩ := h d (hm d List.mem_cons_self) acc
      have hmr : ∀ e ∈ r, e ∈ its := fun e he => hm e (List.mem_cons_of_mem _ he)
      have hl1 : acc.length + r.length ≤ 100000 := by rw [List.length_cons] at hl; omega
      have hw : wipeS [i] (sl.set i (SV.dat d)) = wipeS [i] sl := by simp [wipeS]
      have hs : (wipeS [i] sl).set i (SV.dat d) = sl.set i (SV.dat d) := by simp [wipeS]
      have hl0 : i < (wipeS [i] sl).length := by simp [wipeS]; exact hi
      rw [compM]
      simp only [putDat, hl0, if_true, hs, h1]
      cases hp : p d with
      | false =>
        simp only [hw]
        rw [ih acc hmr hl1, List.filter_cons, hp]
        simp
      | true =>
        have h3 := h2 hp
        simp only [h3, ST.esc, List.getElem?_concat_length]
        have hm1 : acc.length < maxLen := by
          rw [List.length_cons] at hl
          unfold maxLen
          omega
        rw [if_pos hm1]
        have e1 : (gs ++ [GO.acc acc]).set gs.length (GO.acc (acc ++ [f d])) = gs ++ [GO.acc (acc ++ [f d])] := by simp
        rw [e1, hw, ih (acc ++ [f d]) hmr (by rw [List.length_append, List.length_cons, List.length_nil]; rw [List.length_cons] at hl; omega), List.filter_cons, hp]
        simp
  unfold compAll
  have := run its [] (fun d hd => hd) (by simpa using hlen)
  simp only [this, compTail, List.getElem?_concat_length, List.nil_append]
  have hk2 : okH gs.length (wipeS [i] sl) = true := by simpa [wipeS] using hk
  rw [if_pos hk2]
  have e2 : (gs ++ [GO.acc ((its.filter p).map f)]).take gs.length = gs := by simp
  have e3 : restS sl [i] (wipeS [i] (wipeS [i] sl)) = sl := by
    simp only [restS, wipeS, List.set_set]
    exact set_back ho
  rw [e2, e3]
/-! ### trees -/
inductive Tr where
  | nil | node (l : Tr) (k : Int) (r : Tr)
  deriving DecidableEq
@[simp] def enc : Tr → PyData
  | .nil => .none
  | .node l k r => .tuple [.int k, enc l, enc r]
/-- the tree of a datum -/
def dec : PyData → Option Tr
  | .none => some .nil
  | .tuple [.int k, l, r] => (dec l).bind fun x => (dec r).bind fun y => some (.node x k y)
  | _ => none
theorem dec_enc : ∀ t : Tr, dec (enc t) = some t
  | .nil => by simp [dec]
  | .node l k r => by simp [dec, dec_enc l, dec_enc r]
abbrev encL (ns : List Int) : PyData := .list (ns.map .int)
namespace Tr
def height : Tr → Nat
  | .nil => 0
  | .node l _ r => max l.height r.height + 1
def keys : Tr → List Int
  | .nil => []
  | .node l k r => l.keys ++ [k] ++ r.keys
def size : Tr → Nat
  | .nil => 0
  | .node l _ r => l.size + 1 + r.size
def ins (x : Int) : Tr → Tr
  | .nil => .node .nil x .nil
  | .node l k r => if x < k then .node (ins x l) k r else .node l k (ins x r)
theorem keys_len : ∀ t : Tr, t.keys.length = t.size
  | .nil => rfl
  | .node l k r => by simp [keys, size, keys_len l, keys_len r]; omega
theorem height_le : ∀ t : Tr, t.height ≤ t.size
  | .nil => Nat.le_refl _
  | .node l k r => by
    have h1 := height_le l
    have h2 := height_le r
    simp only [height, size]
    omega
/-- a search tree: its keys ascend -/
def Bst (t : Tr) : Prop := t.keys.Pairwise (· < ·)
theorem bst_node {l r : Tr} {k : Int} : Bst (.node l k r) ↔ Bst l ∧ Bst r ∧ (∀ x ∈ l.keys, x < k) ∧ (∀ x ∈ r.keys, k < x) := by
  simp only [Bst, keys, List.append_assoc, List.singleton_append, List.pairwise_append, List.pairwise_cons, List.mem_cons]
  constructor
  · rintro ⟨h1, ⟨h2, h3⟩, h4⟩
    exact ⟨h1, h3, fun x hx => h4 x hx k (.inl rfl), h2⟩
  · rintro ⟨h1, h2, h3, h4⟩
    refine ⟨h1, ⟨h4, h2⟩, fun x hx y hy => ?_⟩
    rcases hy with rfl | hy
    · exact h3 x hx
    · exact Int.lt_trans (h3 x hx) (h4 y hy)
structure Ok (t : Tr) : Prop where
  bst : Bst t
  rng : ∀ x ∈ t.keys, 0 ≤ x ∧ x ≤ 99
  few : t.size ≤ 9
theorem ins_mem (x : Int) : ∀ (t : Tr) (y : Int), y ∈ (ins x t).keys ↔ y = x ∨ y ∈ t.keys
  | .nil, y => by simp [ins, keys]
  | .node l k r, y => by
    unfold ins
    split
    · simp only [keys, List.mem_append, ins_mem x l, List.mem_singleton]
      constructor
      · rintro (((h | h) | h) | h) <;> simp [h]
      · rintro (h | ((h | h) | h)) <;> simp [h]
    · simp only [keys, List.mem_append, ins_mem x r, List.mem_singleton]
      constructor
      · rintro ((h | h) | (h | h)) <;> simp [h]
      · rintro (h | ((h | h) | h)) <;> simp [h]
theorem ins_size (x : Int) : ∀ t : Tr, (ins x t).size = t.size + 1
  | .nil => rfl
  | .node l k r => by
    unfold ins
    split
    · simp only [size, ins_size x l]; omega
    · simp only [size, ins_size x r]; omega
theorem ins_bst (x : Int) : ∀ t : Tr, Bst t → x ∉ t.keys → Bst (ins x t)
  | .nil, _, _ => by simp [ins, Bst, keys]
  | .node l k r, h, hn => by
    obtain ⟨h1, h2, h3, h4⟩ := bst_node.mp h
    have n1 : x ∉ l.keys := fun z => hn (by simp [keys, z])
    have n2 : x ∉ r.keys := fun z => hn (by simp [keys, z])
    have n3 : x ≠ k := fun z => hn (by simp [keys, z])
    unfold ins
    split
    · rename_i hx
      refine bst_node.mpr ⟨ins_bst x l h1 n1, h2, fun y hy => ?_, h4⟩
      rcases (ins_mem x l y).mp hy with rfl | hy
      · exact hx
      · exact h3 y hy
    · rename_i hx
      refine bst_node.mpr ⟨h1, ins_bst x r h2 n2, h3, fun y hy => ?_⟩
      rcases (ins_mem x r y).mp hy with rfl | hy
      · omega
      · exact h4 y hy
/-- the tree of an order -/
def ofL (ns : List Int) : Tr := ns.foldl (fun t x => ins x t) .nil
theorem foldl_mem (ns : List Int) : ∀ (t : Tr) (y : Int), y ∈ (ns.foldl (fun t x => ins x t) t).keys ↔ y ∈ ns ∨ y ∈ t.keys := by
  induction ns with
  | nil => intro t y; simp
  | cons n r ih =>
    intro t y
    rw [List.foldl_cons, ih, ins_mem, List.mem_cons]
    constructor
    · rintro (h | h | h) <;> simp [h]
    · rintro ((h | h) | h) <;> simp [h]
theorem foldl_size (ns : List Int) : ∀ t : Tr, (ns.foldl (fun t x => ins x t) t).size = t.size + ns.length := by
  induction ns with
  | nil => intro t; rfl
  | cons n r ih => intro t; rw [List.foldl_cons, ih, ins_size, List.length_cons]; omega
theorem foldl_bst (ns : List Int) : ∀ t : Tr, Bst t → ns.Nodup → (∀ x ∈ ns, x ∉ t.keys) → Bst (ns.foldl (fun t x => ins x t) t) := by
  induction ns with
  | nil => intro t h _ _; exact h
  | cons n r ih =>
    intro t h nd hd
    obtain ⟨n1, n2⟩ := List.nodup_cons.mp nd
    rw [List.foldl_cons]
    refine ih _ (ins_bst n t h (hd n List.mem_cons_self)) n2 fun x hx hm => ?_
    rcases (ins_mem n t x).mp hm with rfl | hm
    · exact n1 hx
    · exact hd x (List.mem_cons_of_mem _ hx) hm
/-- an order: different keys, at most nine -/
structure Ord (ns : List Int) : Prop where
  nd : ns.Nodup
  rng : ∀ x ∈ ns, 0 ≤ x ∧ x ≤ 99
  few : ns.length ≤ 9
theorem ofL_mem (ns : List Int) (y : Int) : y ∈ (ofL ns).keys ↔ y ∈ ns := by
  unfold ofL
  rw [foldl_mem]
  simp [keys]
theorem ofL_ok {ns : List Int} (h : Ord ns) : Ok (ofL ns) where
  bst := foldl_bst ns .nil (by simp [Bst, keys]) h.nd (fun x _ => by simp [keys])
  rng := fun x hx => h.rng x ((ofL_mem ns x).mp hx)
  few := by
    unfold ofL
    rw [foldl_size]
    simpa [size] using h.few
theorem keys_sorted {t : Tr} (h : Bst t) : t.keys.Pairwise (· ≤ ·) := h.imp fun h => Int.le_of_lt h
theorem bst_nodup {t : Tr} (h : Bst t) : t.keys.Nodup := h.imp fun h => Int.ne_of_lt h
/-- a search tree's keys, from any order of them -/
theorem keys_of_order {ns : List Int} (h : Ord ns) : (ofL ns).keys = sortI ns := by
  have o := ofL_ok h
  refine sorted_unique ?_ (keys_sorted o.bst) (sortI_sorted ns)
  refine List.Perm.trans ?_ (sortI_perm ns).symm
  exact (List.perm_ext_iff_of_nodup (bst_nodup o.bst) h.nd).mpr fun y => ofL_mem ns y
end Tr
/-! ### data of trees compared -/
theorem eqv_enc : ∀ t u : Tr, PyData.eqv (enc t) (enc u) = decide (t = u)
  | .nil, .nil => by simp [PyData.eqv]
  | .nil, .node l k r => by simp [PyData.eqv]
  | .node l k r, .nil => by simp [PyData.eqv]
  | .node l k r, .node l' k' r' => by
    simp only [enc, PyData.eqv, PyData.eqvAll, eqv_enc l l', eqv_enc r r', Bool.and_true]
    by_cases h1 : k = k' <;> by_cases h2 : l = l' <;> by_cases h3 : r = r' <;> simp [h1, h2, h3]
theorem eqvAll_ints : ∀ ns ms : List Int, PyData.eqvAll (ns.map .int) (ms.map .int) = decide (ns = ms)
  | [], [] => by simp [PyData.eqvAll]
  | [], _ :: _ => by simp [PyData.eqvAll]
  | _ :: _, [] => by simp [PyData.eqvAll]
  | n :: ns, m :: ms => by
    simp only [List.map_cons, PyData.eqvAll, PyData.eqv, eqvAll_ints ns ms]
    by_cases h1 : n = m <;> by_cases h2 : ns = ms <;> simp [h1, h2]
@[simp] theorem eqv_ints (ns ms : List Int) : PyData.eqv (.list (ns.map .int)) (.list (ms.map .int)) = decide (ns = ms) := by
  simp only [PyData.eqv]
  exact eqvAll_ints ns ms
theorem lay_enc : ∀ t : Tr, (enc t).canLay0 = true
  | .nil => by simp [PyData.canLay0]
  | .node l k r => by simp [PyData.canLay0, PyData.canLayAll0, lay_enc l, lay_enc r]
theorem depth_enc : ∀ t : Tr, (enc t).depth ≤ t.height + 1
  | .nil => by simp [PyData.depth]
  | .node l k r => by
    have h1 := depth_enc l
    have h2 := depth_enc r
    simp only [enc, PyData.depth, PyData.depthAll, Tr.height]
    omega
theorem shaped_enc {t : Tr} (h : t.height ≤ 60) : SeqAt.shaped (enc t) = true := by
  have := depth_enc t
  unfold SeqAt.shaped
  rw [Bool.and_eq_true]
  exact ⟨lay_enc t, decide_eq_true (by omega)⟩
@[simp] theorem shaped_int (i : Int) : SeqAt.shaped (.int i) = true := by simp [SeqAt.shaped, PyData.canLay0, PyData.depth]
@[simp] theorem shaped_bool (i : Bool) : SeqAt.shaped (.bool i) = true := by simp [SeqAt.shaped, PyData.canLay0, PyData.depth]
@[simp] theorem shaped_none : SeqAt.shaped .none = true := by simp [SeqAt.shaped, PyData.canLay0, PyData.depth]
@[simp] theorem shaped_ints' (ns : List Int) : SeqAt.shaped (.list (ns.map .int)) = true := shaped_ints ns
@[simp] theorem shaped_nil : SeqAt.shaped (.list []) = true := shaped_ints []
theorem Tr.Ok.shaped {t : Tr} (h : t.Ok) : SeqAt.shaped (enc t) = true := shaped_enc (by have := t.height_le; have := h.few; omega)
@[simp] theorem in_ints (ns : List Int) (x : Int) : inAny (.int x) (ns.map PyData.int) = decide (x ∈ ns) := by
  unfold inAny
  induction ns with
  | nil => simp
  | cons n r ih =>
    simp only [List.map_cons, List.any_cons, PyData.eqv, ih]
    by_cases h : n = x
    · subst h; simp
    · have h2 : ¬ x = n := fun z => h z.symm
      simp [h, h2]
@[simp] theorem in_trees (ts : List Tr) (t : Tr) : inAny (enc t) (ts.map enc) = decide (t ∈ ts) := by
  unfold inAny
  induction ts with
  | nil => simp
  | cons n r ih =>
    simp only [List.map_cons, List.any_cons, eqv_enc, ih]
    by_cases h : n = t
    · subst h; simp
    · have h2 : ¬ t = n := fun z => h z.symm
      simp [h, h2]
@[simp] theorem isNone_enc_node (l : Tr) (k : Int) (r : Tr) : isNone (enc (.node l k r)) = false := rfl
theorem nubI_nodup : ∀ (ns acc : List Int), (acc ++ ns).Nodup → nubI ns acc = acc ++ ns
  | [], acc, _ => by simp [nubI]
  | n :: r, acc, h => by
    have h2 : n ∉ acc := fun z => by
      have := (List.nodup_append.mp h).2.2 n z n List.mem_cons_self
      exact this rfl
    rw [nubI, if_neg h2, nubI_nodup r (acc ++ [n]) (by simpa using h)]
    simp
@[simp] theorem boolsOf_comp {α : Type} (f : α → Bool) (l : List α) : boolsOf (l.map (PyData.bool ∘ f)) = some (l.map f) := by
  have := boolsOf_map (l.map f)
  rw [List.map_map] at this
  exact this
@[simp] theorem boolsOf_fun {α : Type} (f : α → Bool) (l : List α) : boolsOf (l.map fun x => PyData.bool (f x)) = some (l.map f) := boolsOf_comp f l
@[simp] theorem intsOf_comp {α : Type} (f : α → Int) (l : List α) : intsOf (l.map (PyData.int ∘ f)) = some (l.map f) := by
  have := intsOf_map (l.map f)
  rw [List.map_map] at this
  exact this
@[simp] theorem intsOf_fun {α : Type} (f : α → Int) (l : List α) : intsOf (l.map fun x => PyData.int (f x)) = some (l.map f) := intsOf_comp f l
@[simp] theorem intsOf_nil : intsOf [] = some [] := rfl
@[simp] theorem intsOf_cons (i : Int) (r : List PyData) : intsOf (.int i :: r) = (intsOf r).bind fun ns => some (i :: ns) := rfl
/-- a comprehension without a test over ints -/
theorem comp_ints {i : Nat} {el : M RV} (f : Int → PyData) (ns : List Int) (sl : List SV) (gs : List GO) (hi : i < sl.length) (ho : notOwn i sl = true) (hk : okH gs.length (sl.set i .un) = true) (hlen : ns.length ≤ 100000)
    (h : ∀ n ∈ ns, ∀ acc, el ⟨sl.set i (.dat (.int n)), gs ++ [.acc acc]⟩ = .ok (.dat (f n)) ⟨sl.set i (.dat (.int n)), gs ++ [.acc acc]⟩) :
    compAll [i] (putDat i) mYes el (ns.map .int) ⟨sl, gs⟩ = .ok (.dat (.list (ns.map f))) ⟨sl, gs⟩ := by
  have hc := comp_pure i mYes el (fun _ => true) (fun d => match d with | .int n => f n | _ => .none) (ns.map .int) sl gs hi ho hk (by rw [List.length_map]; exact hlen) fun d hd acc => by
    obtain ⟨n, hn, rfl⟩ := List.mem_map.mp hd
    exact ⟨rfl, fun _ => h n hn acc⟩
  rw [hc, List.filter_eq_self.mpr (fun _ _ => rfl), List.map_map]
  rfl
/-- .. with a test -/
theorem comp_intsF {i : Nat} {tt : M Bool} {el : M RV} (p : Int → Bool) (f : Int → PyData) (ns : List Int) (sl : List SV) (gs : List GO) (hi : i < sl.length) (ho : notOwn i sl = true) (hk : okH gs.length (sl.set i .un) = true) (hlen : ns.length ≤ 100000)
    (h : ∀ n ∈ ns, ∀ acc, tt ⟨sl.set i (.dat (.int n)), gs ++ [.acc acc]⟩ = .ok (p n) ⟨sl.set i (.dat (.int n)), gs ++ [.acc acc]⟩ ∧ (p n = true → el ⟨sl.set i (.dat (.int n)), gs ++ [.acc acc]⟩ = .ok (.dat (f n)) ⟨sl.set i (.dat (.int n)), gs ++ [.acc acc]⟩)) :
    compAll [i] (putDat i) tt el (ns.map .int) ⟨sl, gs⟩ = .ok (.dat (.list ((ns.filter p).map f))) ⟨sl, gs⟩ := by
  have hc := comp_pure i tt el (fun d => match d with | .int n => p n | _ => false) (fun d => match d with | .int n => f n | _ => .none) (ns.map .int) sl gs hi ho hk (by rw [List.length_map]; exact hlen) fun d hd acc => by
    obtain ⟨n, hn, rfl⟩ := List.mem_map.mp hd
    exact h n hn acc
  rw [hc, List.filter_map, List.map_map]
  rfl
/-- .. over trees -/
theorem comp_trees {i : Nat} {el : M RV} (f : Tr → PyData) (ts : List Tr) (sl : List SV) (gs : List GO) (hi : i < sl.length) (ho : notOwn i sl = true) (hk : okH gs.length (sl.set i .un) = true) (hlen : ts.length ≤ 100000)
    (h : ∀ t ∈ ts, ∀ acc, el ⟨sl.set i (.dat (enc t)), gs ++ [.acc acc]⟩ = .ok (.dat (f t)) ⟨sl.set i (.dat (enc t)), gs ++ [.acc acc]⟩) :
    compAll [i] (putDat i) mYes el (ts.map enc) ⟨sl, gs⟩ = .ok (.dat (.list (ts.map f))) ⟨sl, gs⟩ := by
  have run := fun (l : List Tr) => comp_pure i mYes el (fun _ => true) (fun d => (dec d).elim .none f) (l.map enc) sl gs hi ho hk
  have hc := run ts (by rw [List.length_map]; exact hlen) fun d hd acc => by
    obtain ⟨t, ht, rfl⟩ := List.mem_map.mp hd
    rw [dec_enc]
    exact ⟨rfl, fun _ => h t ht acc⟩
  rw [hc, List.filter_eq_self.mpr (fun _ _ => rfl), List.map_map]
  have : ((fun d => (dec d).elim PyData.none f) ∘ enc) = f := by
    funext t
    dsimp only [Function.comp]
    rw [dec_enc]
    rfl
  rw [this]
@[simp] theorem eqv_int_int (i j : Int) : PyData.eqv (.int i) (.int j) = decide (i = j) := by
  simp only [PyData.eqv]
  exact Bool.beq_eq_decide_eq ..
@[simp] theorem eqv_bool_bool (i j : Bool) : PyData.eqv (.bool i) (.bool j) = decide (i = j) := by
  simp only [PyData.eqv]
  exact Bool.beq_eq_decide_eq ..
@[simp] theorem eqv_nil_nil : PyData.eqv (.list []) (.list []) = true := by simp [PyData.eqv, PyData.eqvAll]
@[simp] theorem eqv_ints_nil (ns : List Int) : PyData.eqv (.list (ns.map .int)) (.list []) = decide (ns = []) := eqv_ints ns []
@[simp] theorem eqv_nil_ints (ns : List Int) : PyData.eqv (.list []) (.list (ns.map .int)) = decide (ns = []) := by
  rw [show (PyData.list [] = .list (([] : List Int).map .int)) from rfl, eqv_ints]
  simp [eq_comm]
end JL
/-! J12: order of lists of ints; a list backwards. -/
namespace JL
open PySem PySem.Spec PyProof.Rows L2
section
variable {X : Cx} {N : Ent} {W : WX} {a : Expr} {ma : M RV} {pos : Pos}
theorem depth_ilist (ns : List Int) : (PyData.list (ns.map .int)).depth ≤ 1 := by
  simp only [PyData.depth]
  rw [PySem.W.depth_ints]
  omega
theorem lt_ilist (ns ms : List Int) : PySem.W.dataLt (.list (ns.map .int)) (.list (ms.map .int)) = decide (ns < ms) := by
  rw [PySem.W.dataLt_list]
  exact PySem.W.dataLt_ints ns ms
theorem alike_ilist (ns ms : List Int) : PySem.W.alike (.list (ns.map .int)) (.list (ms.map .int)) = true := by
  rw [PySem.W.alike]
  exact PySem.W.alike_ints ns ms
def rLtL (K : PySem.W.Frag) : R2 := fun x y H Q => ∃ ns ms : List Int, Dp K H x (.list (ns.map .int)) ∧ Dp K H y (.list (ms.map .int)) ∧ Q (.bl (decide (ns < ms))) H
def rLeL (K : PySem.W.Frag) : R2 := fun x y H Q => ∃ ns ms : List Int, Dp K H x (.list (ns.map .int)) ∧ Dp K H y (.list (ms.map .int)) ∧ Q (.bl (!decide (ms < ns))) H
theorem op_ltL (hu : X.A.units + 64 < cLine) : OpR X (compareOp .Lt) (rLtL X.K) := by
  intro pins s σ H x y v u Q I rx ry h
  obtain ⟨ns, ms, hd, he, q⟩ := h
  obtain ⟨as, r1⟩ := Dp.reads I _ x v hd rx
  obtain ⟨bs, r2⟩ := Dp.reads I _ y u he ry
  have h1 := depth_ilist ns
  refine PySem.W.lt_data r1 r2 (alike_ilist ns ms) (fun z => by cases z) (by omega) ?_
  rw [lt_ilist]
  exact ⟨.bl _, H, I, rfl, q⟩
theorem op_leL (hu : X.A.units + 64 < cLine) : OpR X (compareOp .LtE) (rLeL X.K) := by
  intro pins s σ H x y v u Q I rx ry h
  obtain ⟨ns, ms, hd, he, q⟩ := h
  obtain ⟨as, r1⟩ := Dp.reads I _ x v hd rx
  obtain ⟨bs, r2⟩ := Dp.reads I _ y u he ry
  have h1 := depth_ilist ns
  refine PySem.W.le_data r1 r2 (alike_ilist ns ms) (fun z => by cases z) (by omega) ?_
  rw [lt_ilist]
  exact ⟨.bl _, H, I, rfl, q⟩
@[simp] def ltLD : PyData → PyData → Option PyData
  | .list xs, .list ys => (intsOf xs).bind fun ns => (intsOf ys).bind fun ms => some (.bool (decide (ns < ms)))
  | _, _ => none
@[simp] def leLD : PyData → PyData → Option PyData
  | .list xs, .list ys => (intsOf xs).bind fun ns => (intsOf ys).bind fun ms => some (.bool (!decide (ms < ns)))
  | _, _ => none
theorem pure_ltL {K : PySem.W.Frag} : Pure2 (rLtL K) ltLD := by
  intro x y H L Q d e g live hx hy he k
  unfold ltLD at he
  split at he
  · rename_i xs ys
    cases e1 : intsOf xs with
    | none => rw [e1] at he; cases he
    | some ns =>
      cases e2 : intsOf ys with
      | none => rw [e1, e2] at he; cases he
      | some ms =>
        rw [e1, e2] at he
        cases he
        rw [intsOf_eq e1] at hx
        rw [intsOf_eq e2] at hy
        exact ⟨ns, ms, hx.dp, hy.dp, k _ _ (Same.refl _) (.bl _)⟩
  · cases he
theorem pure_leL {K : PySem.W.Frag} : Pure2 (rLeL K) leLD := by
  intro x y H L Q d e g live hx hy he k
  unfold leLD at he
  split at he
  · rename_i xs ys
    cases e1 : intsOf xs with
    | none => rw [e1] at he; cases he
    | some ns =>
      cases e2 : intsOf ys with
      | none => rw [e1, e2] at he; cases he
      | some ms =>
        rw [e1, e2] at he
        cases he
        rw [intsOf_eq e1] at hx
        rw [intsOf_eq e2] at hy
        exact ⟨ns, ms, hx.dp, hy.dp, k _ _ (Same.refl _) (.bl _)⟩
  · cases he
theorem bool_leL {K : PySem.W.Frag} : Bool2 (rLeL K) leLD := by
  intro x y H L Q d e g live hx hy he k
  unfold leLD at he
  split at he
  · rename_i xs ys
    cases e1 : intsOf xs with
    | none => rw [e1] at he; cases he
    | some ns =>
      cases e2 : intsOf ys with
      | none => rw [e1, e2] at he; cases he
      | some ms =>
        rw [e1, e2] at he
        cases he
        rw [intsOf_eq e1] at hx
        rw [intsOf_eq e2] at hy
        exact ⟨ns, ms, hx.dp, hy.dp, k⟩
  · cases he
/-! ### xs[::-1] -/
@[simp] def revD : PyData → Option PyData
  | .list xs => some (.list xs.reverse)
  | _ => none
theorem je_rev {k : Nat} {p1 p2 p3 : Pos} (ha : JE X N W a ma) : JE X N W (.Subscript a (.Slice none none (some (.UnaryOp .USub (.Constant (.int 1) k p1) p2)) p3) pos) (mOp1 revD ma) := by
  refine PE.weak (pe_revL ha) fun σ H Q ⟨L, as1, st, rel, h⟩ => ?_
  refine sem_mono (fin_bind (P1 := VRel) rel h) fun v H1 ⟨L3, as3, s3, rv3, r3, v3, x3, f3⟩ => ?_
  cases e1 : s3.look rv3 with
  | none => rw [e1] at f3; exact f3.elim
  | some d =>
    rw [e1] at f3
    simp only [Option.bind_some] at f3
    have q := r3.look v3 e1
    cases d with
    | none => exact f3.elim
    | bool b => exact f3.elim
    | int b => exact f3.elim
    | dict b => exact f3.elim
    | tuple b => exact f3.elim
    | str b => exact f3.elim
    | list ds =>
      obtain ⟨p, ws, rfl, hp, hs⟩ := q.list
      exact ⟨p, ws, rfl, SqL.of hp, fun n nn => fin_alloc r3 f3 nn fun H' e sm => .lst e (hs.reverse.mono sm)⟩
end
end JL
/-! J13: list(range(n)). -/
namespace JL
open PySem PySem.Spec PyProof.Rows L2
section
variable {X : Cx} {N : Ent} {W : WX} {a : Expr} {mr : M (List RV)} {pos : Pos}
theorem vals_items {n : Nat} {acc : Array Value} (h : ItemsOf (fun i v => ∃ t, v = .int (0 + (i : Int) * 1) t) acc n) : Vals ((List.range n).map fun i => V.int ((i : Nat) : Int)) acc.toList := by
  obtain ⟨h1, h2⟩ := h
  have key : ∀ (l : List Value) (k : Nat), (∀ (j : Nat) (v : Value), l[j]? = some v → ∃ t, v = Value.int ((k + j : Nat) : Int) t) → Vals ((List.range' k l.length).map fun i => V.int ((i : Nat) : Int)) l := by
    intro l
    induction l with
    | nil => intro k _; exact .nil
    | cons x r ih =>
      intro k hx
      rw [List.length_cons, List.range'_succ, List.map_cons]
      obtain ⟨t, et⟩ := hx 0 x rfl
      refine .cons ⟨t, et⟩ (ih (k + 1) fun j v e => ?_)
      obtain ⟨t', e'⟩ := hx (j + 1) v (by rw [List.getElem?_cons_succ]; exact e)
      exact ⟨t', by rw [e']; congr 2; omega⟩
  have := key acc.toList 0 fun j v e => by
    obtain ⟨t, et⟩ := h2 j v (by rw [← Array.getElem?_toList]; exact e)
    exact ⟨t, by rw [et]; congr 1; omega⟩
  rw [Array.length_toList, h1, ← List.range_eq_range'] at this
  exact this
def tLRng (ta : TA) : TE := fun σ H Q => ta σ H fun xs H1 => ∃ j : Int, xs = [V.int j] ∧ -1000000 ≤ j ∧ j ≤ 1000000 ∧ ∀ l, H1 l = none → Q (.ref l) (upd H1 l (.lst ((List.range j.toNat).map fun i => V.int ((i : Nat) : Int))))
theorem pe_lrange {ta : TA} {p p2 pos2 : Pos} (hg : Gl X "list") (hm : X.mg "list" = none) (hg2 : Gl X "range") (hm2 : X.mg "range" = none) (hcalm : X.calm = true) (ha : PA X [a] ta)
    (hs : starEach [a] X.env = [(false, eval a X.env)]) (hs2 : starEach [.Call (.Name "range" p2) [a] [] pos2] X.env = (false, eval (.Call (.Name "range" p2) [a] [] pos2) X.env) :: starEach [] X.env) :
    PE X (.Call (.Name "list" p) [.Call (.Name "range" p2) [a] [] pos2] [] pos) (tLRng ta) := by
  refine ⟨fun pins s σ H Q I h => ?_⟩
  refine wpAny_Call_Name_kw (ld_blt I hg hm (u := .type "list") (by decide +kernel) ?_)
  refine PyProof.Rows.callWith_type1 ?_ hs2 rfl
  rw [hs2]
  show wpAny _ _ (spliced ((false, eval (.Call (.Name "range" p2) [a] [] pos2) X.env) :: backTo pos (starEach [] X.env))) _ _ s
  refine Calls.spliced_cons ?_
  refine wpAny_Call_Name_kw (ld_blt I hg2 hm2 boot_range ?_)
  refine PyProof.Rows.callWith_type1 (thn (ha.run pos2 pins s σ H _ I h) fun us s1 ⟨vs, H1, I1, r1, q1⟩ => ?_) hs rfl
  obtain ⟨j, e, q0, q1, q⟩ := q1
  subst e
  cases r1 with
  | cons r rr =>
    cases rr
    obtain ⟨t, rfl⟩ := r
    refine call_range_1 ?_
    refine Calls.spliced_nil ?_
    have I2 : Inv X pins σ H1 { s1 with heap := s1.heap.push { cls := .type "range", data := .fields #[.int 0 s1.toks, .int j t, .int 1 (s1.toks + 1)] }, toks := s1.toks + 1 + 1 } := I1.kept (t' := s1.toks + 1 + 1) fun b o e => Heap.get?_push_of_some _ e
    refine call_list_range (I2.ok.hd hcalm) (IsRange.new ..) (small_one (by decide) (by decide) (by omega) (by omega)) (n := j.toNat) (by rw [rangeSize_one]; split <;> omega) (by omega) fun h' tk acc c hk hS hI => ?_
    have hv := vals_items hI
    have hlen : ((List.range j.toNat).map fun i => V.int ((i : Nat) : Int)).length ≤ sizeLine := by
      rw [List.length_map, List.length_range]
      exact Nat.le_trans (show j.toNat ≤ 1000000 by omega) (by decide)
    exact ⟨.ref _, upd H1 _ (.lst ((List.range j.toNat).map fun i => V.int ((i : Nat) : Int))), I2.laid (t' := tk) hk (Nat.le_refl _) ⟨hlen, acc.toList, c, hv, by rw [Array.toArray_toList]; exact hS⟩, rfl, q _ (I2.hok.fresh (Nat.le_refl _))⟩
theorem ats_range (H : Hp) (n : Nat) : Ats H ((List.range n).map fun i => V.int ((i : Nat) : Int)) ((List.range n).map fun i => PyData.int ((i : Nat) : Int)) := by
  induction (List.range n) with
  | nil => exact .nil
  | cons x r ih => exact .cons (.int _) ih
@[simp] def lrangeD : List PyData → Option PyData
  | [.int j] => if -1000000 ≤ j ∧ j ≤ 1000000 then some (.list ((List.range j.toNat).map fun i => .int ((i : Nat) : Int))) else none
  | _ => none
theorem je_lrange {p p2 pos2 : Pos} (hm : X.mg "list" = none) (hm2 : X.mg "range" = none) (ha : JA X N W [a] mr) (hg : Gl X "list" := by rfl) (hg2 : Gl X "range" := by rfl) (hcalm : X.calm = true := by rfl)
    (hs : starEach [a] X.env = [(false, eval a X.env)] := by rfl) (hs2 : starEach [.Call (.Name "range" p2) [a] [] pos2] X.env = (false, eval (.Call (.Name "range" p2) [a] [] pos2) X.env) :: starEach [] X.env := by rfl) :
    JE X N W (.Call (.Name "list" p) [.Call (.Name "range" p2) [a] [] pos2] [] pos) (mCall lrangeD mr) := by
  refine PE.weak (pe_lrange hg hm hg2 hm2 hcalm ha hs hs2) fun σ H Q ⟨L, as1, st, rel, h⟩ => ?_
  refine sem_mono (fin_bind (P1 := VRels) rel h) fun vs H1 ⟨L3, as3, s3, rv3, r3, v3, x3, f3⟩ => ?_
  refine fin_call (r := fun xs H Q => ∃ j : Int, xs = [V.int j] ∧ -1000000 ≤ j ∧ j ≤ 1000000 ∧ ∀ l, H l = none → Q (.ref l) (upd H l (.lst ((List.range j.toNat).map fun i => V.int ((i : Nat) : Int))))) ?_ r3 v3 f3
  intro xs H L Q ds g live h he k
  unfold lrangeD at he
  split at he
  · split at he
    · rename_i hc
      cases he
      obtain ⟨v, rfl, hv⟩ := Paired.one h
      rw [hv.int]
      exact ⟨_, rfl, hc.1, hc.2, fun l hl => k _ _ (same_new hl) (at_new live hl (ats_range _ _))⟩
    · cases he
  · cases he
end
end JL
/-! J14: plain words for ranges and slices. -/
namespace JL
open PySem L2
/-- 0, 1, .. m - 1 -/
def natI (m : Nat) : List Int := (List.range m).map fun k => ((k : Nat) : Int)
theorem natI_len (m : Nat) : (natI m).length = m := by simp [natI]
theorem natI_mem {m : Nat} {i : Int} : i ∈ natI m ↔ ∃ k : Nat, k < m ∧ i = (k : Int) := by
  simp only [natI, List.mem_map, List.mem_range]
  exact ⟨fun ⟨k, h, e⟩ => ⟨k, h, e.symm⟩, fun ⟨k, h, e⟩ => ⟨k, h, e.symm⟩⟩
theorem rangeD_nat (m : Nat) : rangeD 0 (m : Int) = (natI m).map .int := by
  simp [rangeD, natI]
theorem rangeD_of {j : Int} (h : 0 ≤ j) : rangeD 0 j = (natI j.toNat).map .int := by
  obtain ⟨n, rfl⟩ := Int.eq_ofNat_of_zero_le h
  rw [rangeD_nat, Int.toNat_natCast]
theorem rangeD_to {lo hi : Int} : rangeD lo hi = ((List.range (hi - lo).toNat).map fun k => lo + ((k : Nat) : Int)).map PyData.int := by
  simp [rangeD]
theorem in62_small {j : Int} (h0 : -1000000000 ≤ j) (h1 : j ≤ 1000000000) : in62 j = true := Nat.ble_eq_true_of_le (by omega)
theorem cut_to {α : Type} (xs : List α) (l : Nat) : cutD xs none (some (l : Int)) = xs.take l := by
  unfold cutD HT.sIx
  have h : ¬ ((l : Int) < 0) := by omega
  simp only [h, if_false, List.drop_zero, Nat.sub_zero, Int.toNat_natCast]
  by_cases q : l ≤ xs.length
  · rw [Nat.min_eq_left q]
  · rw [Nat.min_eq_right (by omega), List.take_of_length_le (Nat.le_refl _), List.take_of_length_le (by omega)]
theorem cut_from {α : Type} (xs : List α) (l : Nat) : cutD xs (some (l : Int)) none = xs.drop l := by
  unfold cutD HT.sIx
  have h : ¬ ((l : Int) < 0) := by omega
  simp only [h, if_false, Int.toNat_natCast]
  by_cases q : l ≤ xs.length
  · rw [Nat.min_eq_left q, List.take_of_length_le (by rw [List.length_drop]; omega)]
  · rw [Nat.min_eq_right (by omega), List.drop_of_length_le (Nat.le_refl _), List.drop_of_length_le (by omega)]
    simp
theorem cut_mid {α : Type} (xs : List α) (l m : Nat) : cutD xs (some (l : Int)) (some (m : Int)) = (xs.drop l).take (m - l) := by
  unfold cutD HT.sIx
  have h : ¬ ((l : Int) < 0) := by omega
  have h2 : ¬ ((m : Int) < 0) := by omega
  simp only [h, h2, if_false, Int.toNat_natCast]
  by_cases q : l ≤ xs.length
  · rw [Nat.min_eq_left q]
    by_cases q2 : m ≤ xs.length
    · rw [Nat.min_eq_left q2]
    · rw [Nat.min_eq_right (by omega), List.take_of_length_le (by rw [List.length_drop]; omega), List.take_of_length_le (by rw [List.length_drop]; omega)]
  · rw [Nat.min_eq_right (show xs.length ≤ l by omega), List.drop_of_length_le (Nat.le_refl _), List.drop_of_length_le (show xs.length ≤ l by omega)]
    simp
theorem cut_but {α : Type} (xs : List α) : cutD xs none (some (-1)) = xs.dropLast := by
  unfold cutD HT.sIx
  simp only [List.drop_zero, Nat.sub_zero]
  have h : (-1 : Int) < 0 := by decide
  rw [if_pos h, List.dropLast_eq_take]
  congr 1
  omega
theorem ixN_nat {n l : Nat} (h : l < n) : ixN n (l : Int) = some l := by
  unfold ixN
  rw [if_pos (by omega), if_pos (by omega), Int.toNat_natCast]
theorem atI_nat {α : Type} {xs : List α} {l : Nat} (h : l < xs.length) : L2.atI xs (l : Int) = some xs[l] := by
  unfold L2.atI
  rw [ixN_nat h, Option.bind_some, List.getElem?_eq_getElem h]
theorem atI_last {α : Type} (xs : List α) (p : α) (h : xs.getLast? = some p) : L2.atI xs (-1) = some p := by
  cases xs with
  | nil => cases h
  | cons x r =>
    unfold L2.atI ixN
    rw [List.getLast?_eq_getElem?] at h
    have h1 : ¬ (0 : Int) ≤ -1 := by decide
    rw [if_neg h1, if_pos (by rw [List.length_cons]; omega)]
    have h2 : ((-1 : Int) + ((x :: r).length : Nat)).toNat = (x :: r).length - 1 := by rw [List.length_cons]; omega
    rw [h2]
    exact h
/-- a comprehension over range(m) -/
theorem comp_upto {i : Nat} {el : M RV} (f : Nat → PyData) (m : Nat) (sl : List SV) (gs : List GO) (hi : i < sl.length) (ho : notOwn i sl = true) (hk : okH gs.length (sl.set i .un) = true) (hlen : m ≤ 100000)
    (h : ∀ n, n < m → ∀ acc, el ⟨sl.set i (.dat (.int (n : Nat))), gs ++ [.acc acc]⟩ = .ok (.dat (f n)) ⟨sl.set i (.dat (.int (n : Nat))), gs ++ [.acc acc]⟩) :
    compAll [i] (putDat i) mYes el (rangeD 0 (m : Int)) ⟨sl, gs⟩ = .ok (.dat (.list ((List.range m).map f))) ⟨sl, gs⟩ := by
  rw [rangeD_nat]
  have := comp_ints (i := i) (el := el) (fun z => f z.toNat) (natI m) sl gs hi ho hk (by rw [natI_len]; exact hlen) fun n hn acc => by
    obtain ⟨k, hk, rfl⟩ := natI_mem.mp hn
    exact h k hk acc
  rw [this, natI, List.map_map]
  rfl
/-- .. with a test -/
theorem comp_uptoF {i : Nat} {tt : M Bool} {el : M RV} (p : Nat → Bool) (f : Nat → PyData) (m : Nat) (sl : List SV) (gs : List GO) (hi : i < sl.length) (ho : notOwn i sl = true) (hk : okH gs.length (sl.set i .un) = true) (hlen : m ≤ 100000)
    (h : ∀ n, n < m → ∀ acc, tt ⟨sl.set i (.dat (.int (n : Nat))), gs ++ [.acc acc]⟩ = .ok (p n) ⟨sl.set i (.dat (.int (n : Nat))), gs ++ [.acc acc]⟩ ∧ (p n = true → el ⟨sl.set i (.dat (.int (n : Nat))), gs ++ [.acc acc]⟩ = .ok (.dat (f n)) ⟨sl.set i (.dat (.int (n : Nat))), gs ++ [.acc acc]⟩)) :
    compAll [i] (putDat i) tt el (rangeD 0 (m : Int)) ⟨sl, gs⟩ = .ok (.dat (.list (((List.range m).filter p).map f))) ⟨sl, gs⟩ := by
  rw [rangeD_nat]
  have := comp_intsF (i := i) (tt := tt) (el := el) (fun z => p z.toNat) (fun z => f z.toNat) (natI m) sl gs hi ho hk (by rw [natI_len]; exact hlen) fun n hn acc => by
    obtain ⟨k, hk, rfl⟩ := natI_mem.mp hn
    exact h k hk acc
  rw [this, natI, List.filter_map, List.map_map]
  rfl
/-- sums -/
theorem intsOf_nat {α : Type} (f : α → Nat) (l : List α) : intsOf (l.map fun x => PyData.int ((f x : Nat) : Int)) = some (l.map fun x => ((f x : Nat) : Int)) := intsOf_fun _ l
theorem sum_cast : ∀ l : List Nat, ((l.map fun n => ((n : Nat) : Int)).sum) = ((l.sum : Nat) : Int)
  | [] => rfl
  | x :: r => by
    rw [List.map_cons, List.sum_cons, List.sum_cons, sum_cast r]
    omega
/-! ### lists of trees -/
theorem eqvAll_trees : ∀ ts us : List Tr, PyData.eqvAll (ts.map enc) (us.map enc) = decide (ts = us)
  | [], [] => by simp [PyData.eqvAll]
  | [], _ :: _ => by simp [PyData.eqvAll]
  | _ :: _, [] => by simp [PyData.eqvAll]
  | n :: ns, m :: ms => by
    simp only [List.map_cons, PyData.eqvAll, eqv_enc, eqvAll_trees ns ms]
    by_cases h1 : n = m <;> by_cases h2 : ns = ms <;> simp [h1, h2]
theorem eqv_trees (ts us : List Tr) : PyData.eqv (.list (ts.map enc)) (.list (us.map enc)) = decide (ts = us) := by
  simp only [PyData.eqv]
  exact eqvAll_trees ts us
theorem lay_trees : ∀ ts : List Tr, PyData.canLayAll0 (ts.map enc) = true
  | [] => by simp [PyData.canLayAll0]
  | t :: r => by simp [PyData.canLayAll0, lay_enc t, lay_trees r]
theorem depth_trees : ∀ ts : List Tr, (∀ t ∈ ts, t.height ≤ 50) → PyData.depthAll (ts.map enc) ≤ 51
  | [], _ => by simp [PyData.depthAll]
  | t :: r, h => by
    have h1 := depth_enc t
    have h2 := h t List.mem_cons_self
    have h3 := depth_trees r (fun u hu => h u (List.mem_cons_of_mem _ hu))
    simp only [List.map_cons, PyData.depthAll]
    omega
theorem shaped_trees {ts : List Tr} (h : ∀ t ∈ ts, t.Ok) : SeqAt.shaped (.list (ts.map enc)) = true := by
  have h1 := depth_trees ts (fun t ht => by have := (h t ht).few; have := t.height_le; omega)
  unfold SeqAt.shaped
  rw [Bool.and_eq_true]
  refine ⟨by simp [PyData.canLay0, lay_trees], decide_eq_true ?_⟩
  simp only [PyData.depth]
  omega
end JL
/-! J15: loops and comprehensions over what yields data; tuple targets; enumerate; ranges downwards; dicts read. -/
namespace JL
open PySem PySem.Spec PyProof.Rows L2
section
variable {X : Cx} {N : Ent} {W : WX} {e a b c : Expr} {es : List Expr} {ma mb mc : M RV} {mt mu : M Bool} {mr : M (List RV)} {pos : Pos} {s : Stmt} {ss : List Stmt} {m1 m2 : M Flw}
/-- an iterator that yields data -/
structure Yields (N : Ent) (J : It) (its : List PyData) (Src : List Addr → Hp → Prop) : Prop where
  mono : ∀ L H L' H', Same (mask H L) (mask H' L') → Src L H → Src L' H'
  go : ∀ (i : Nat) L H, i < its.length → Src L H → J.go i H
  stop : ∀ L H, Src L H → J.stop its.length H
  yld : ∀ (i : Nat) (d : PyData) L H, its[i]? = some d → (∀ b ∈ L, H b ≠ none) → Src L H → ∀ x H', J.yld i H x H' → Same H H' ∧ At (mask H' L) x d
/-- a target that takes data -/
def PutOk (N : Ent) (vs : List Nat) (put : PyData → M Flw) (g : TG) : Prop := ∀ (d : PyData) (L : List Addr) (as1 : List (List Addr)) (st st1 : ST) (σ : L2.St) (H : Hp) (v : V), Rel N L as1 st σ H → At (mask H L) v d → put d st = .ok .nx st1 → ∀ Q : L2.St → Hp → Prop,
  (∀ LL as2 σ2 H2, Rel N LL as2 st1 σ2 H2 → Ext L as1 H LL as2 H2 → L2.wipe σ2 vs = L2.wipe σ vs → Q σ2 H2) → g v σ H Q
theorem for_yields {vs : List Nat} {put : PyData → M Flw} {body : M Flw} {J : It} {g : TG} {its : List PyData} {Src : List Addr → Hp → Prop} (y : Yields N J its Src) (p : PutOk N vs put g)
    {D : Ends} {σ : L2.St} {H : Hp} {L : List Addr} {as1 : List (List Addr)} {st : ST} (r : Rel N L as1 st σ H) (src : Src L H) (h : FinS N W L as1 H (loopM put body its st) D) :
    ∃ Wv : Nat → Nat → L2.St → Hp → Prop, (∃ m, Wv 0 m σ H) ∧ ∀ i m σ H, Wv i m σ H →
      (J.stop i H ∧ D.nx σ H) ∨ (J.go i H ∧ ∃ Nx : L2.St → Hp → Prop, (∀ σ' H', Nx σ' H' → ∃ m', m' < m ∧ Wv (i + 1) m' σ' H') ∧ ∀ x H', J.yld i H x H' → g x σ H' fun σ2 H2 => semS N W body { D with nx := Nx, ct := Nx, bk := D.nx } σ2 H2) :=
  for_core its Src y.mono y.go y.stop (fun i d hd L as1 st σ H st1 r src e x H' yy Q q => by
    obtain ⟨s1, s2⟩ := y.yld i d L H hd r.live src x H' yy
    exact p d L as1 st st1 σ H' x (r.grow s1) s2 e Q fun LL as2 σ2 H2 r2 x2 _ => q LL as2 σ2 H2 r2 ((Ext.grow s1).trans x2)) r src h
theorem comp_yields {vs : List Nat} {put : PyData → M Flw} {tt : M Bool} {el : M RV} {J : It} {g : TG} {its : List PyData} {Src : List Addr → Hp → Prop} (y : Yields N J its Src) (p : PutOk N vs put g)
    {Q : VK} {σ : L2.St} {H : Hp} {L : List Addr} {as1 : List (List Addr)} {st : ST} (r : Rel N L as1 st σ H) (src : Src L H) (h : Fin N W VRel L as1 σ H (compAll vs put tt el its st) Q) :
    ∀ D, H D = none → ∃ Wv : Nat → Nat → Hp → Prop, (∃ m, Wv 0 m (upd H D (.lst []))) ∧ ∀ i m H, Wv i m H →
      (J.stop i H ∧ Q (.ref D) H) ∨ (J.go i H ∧ ∃ Nx : Hp → Prop, (∀ H', Nx H' → ∃ m', m' < m ∧ Wv (i + 1) m' H') ∧ ∀ x H', J.yld i H x H' → g x (L2.wipe σ vs) H' fun σ2 H2 => L2.wipe σ2 vs = L2.wipe σ vs ∧ semT N W0 tt σ2 H2 fun b H3 =>
        if b = true then semE N W0 el σ2 H3 fun y H4 => ∃ acc, H4 D = some (.lst acc) ∧ acc.length < sizeLine ∧ Nx (upd H4 D (.lst (acc ++ [y]))) else Nx H3) :=
  comp_core vs its Src y.mono y.go y.stop (fun i d hd L as1 st σ H st1 r src e x H' yy Q q => by
    obtain ⟨s1, s2⟩ := y.yld i d L H hd r.live src x H' yy
    exact p d L as1 st st1 σ H' x (r.grow s1) s2 e Q fun LL as2 σ2 H2 r2 x2 w => q LL as2 σ2 H2 r2 ((Ext.grow s1).trans x2) w) r src h
/-! ### targets -/
theorem put_nameOk {i : Nat} {vs : List Nat} (hi : i ∈ vs) : PutOk N vs (putDat i) (gName i) := fun d L as1 st st1 σ H v r hv e Q q => put_wipe hi r hv e q
@[simp] def putT (is : List Nat) (d : PyData) (st : ST) : R Flw := match d with
  | .tuple ds => if ds.length = is.length ∧ is.all (fun i => decide (i < st.sl.length)) = true then .ok .nx { st with sl := putAll is ds st.sl } else .stuck
  | _ => .stuck
theorem put_allW {vs0 : List Nat} {H : Hp} {L : List Addr} {as1 : List (List Addr)} {Q : L2.St → Hp → Prop} : ∀ (is : List Nat) (vs : List V) (ds : List PyData) (st : ST) (σ : L2.St), (∀ i ∈ is, i ∈ vs0) → Rel N L as1 st σ H → Ats (mask H L) vs ds → ds.length = is.length → (∀ i ∈ is, i < st.sl.length) →
    (∀ σ', Rel N L as1 { st with sl := putAll is ds st.sl } σ' H → L2.wipe σ' vs0 = L2.wipe σ vs0 → Q σ' H) → gAll is vs σ H Q
  | [], _, _, st, σ, _, r, .nil, _, _, q => ⟨rfl, q σ r rfl⟩
  | i :: is, _, _, st, σ, hv, r, .cons (v := v) (vs := vs) (d := d) (ds := ds) h t, hl, hi, q => by
    refine ⟨v, vs, rfl, ?_⟩
    have r1 := r.setDat (i := i) (by rw [← r.len]; exact hi i List.mem_cons_self) h
    refine put_allW is vs ds { st with sl := st.sl.set i (.dat d) } _ (fun j hj => hv j (List.mem_cons_of_mem _ hj)) r1 t (by rw [List.length_cons, List.length_cons] at hl; omega) (fun j hj => ?_) fun σ' r' w => q σ' r' ?_
    · rw [List.length_set]
      exact hi j (List.mem_cons_of_mem _ hj)
    · rw [w]
      exact wipe_set (hv i List.mem_cons_self)
theorem put_tupOk {K : PySem.W.Frag} {is vs : List Nat} {n : Nat} (hn : is.length = n) (hi : ∀ i ∈ is, i ∈ vs) : PutOk N vs (putT is) (gTup K n (gAll is)) := fun d L as1 st st1 σ H v r hv e Q q => by
  cases d with
  | none => cases e
  | bool b => cases e
  | int b => cases e
  | str b => cases e
  | list b => cases e
  | dict b => cases e
  | tuple ds =>
    simp only [putT] at e
    split at e
    · rename_i hl
      cases e
      cases hv with
      | tup ha hs =>
        rename_i a ws
        refine ⟨a, ws, rfl, SqT.of (mask_same _ _ ha), by rw [hs.length, hl.1, hn], ?_⟩
        refine put_allW is ws ds st σ hi r hs hl.1 (fun i hi => ?_) fun σ' r' w => q L as1 σ' H r' .refl w
        have := List.all_eq_true.mp hl.2 i hi
        simpa using this
    · cases e
/-! ### what yields -/
def SrcL (p : Addr) (ds : List PyData) (L : List Addr) (H : Hp) : Prop := ∃ vs, mask H L p = some (.lst vs) ∧ Ats (mask H L) vs ds
def SrcT (p : Addr) (ds : List PyData) (L : List Addr) (H : Hp) : Prop := ∃ vs, mask H L p = some (.tup vs) ∧ Ats (mask H L) vs ds
theorem SrcL.mono {p : Addr} {ds : List PyData} (L : List Addr) (H : Hp) (L' : List Addr) (H' : Hp) (s : Same (mask H L) (mask H' L')) : SrcL p ds L H → SrcL p ds L' H' := fun ⟨vs, h1, h2⟩ => ⟨vs, s _ _ h1, h2.mono s⟩
theorem SrcT.mono {p : Addr} {ds : List PyData} (L : List Addr) (H : Hp) (L' : List Addr) (H' : Hp) (s : Same (mask H L) (mask H' L')) : SrcT p ds L H → SrcT p ds L' H' := fun ⟨vs, h1, h2⟩ => ⟨vs, s _ _ h1, h2.mono s⟩
theorem yields_list {K : PySem.W.Frag} (p : Addr) (ds : List PyData) : Yields N (Itl K p) ds (SrcL p ds) where
  mono := SrcL.mono
  go := fun i L H hi ⟨vs, h1, h2⟩ => ⟨vs, vs[i]'(by rw [h2.length]; exact hi), SqL.of (mask_same _ _ h1), List.getElem?_eq_getElem _⟩
  stop := fun L H ⟨vs, h1, h2⟩ => ⟨vs, SqL.of (mask_same _ _ h1), by rw [h2.length]; exact Nat.le_refl _⟩
  yld := fun i d L H hd _ ⟨vs, h1, h2⟩ x H' ⟨e, y⟩ => by
    subst e
    obtain ⟨v, g1, g2⟩ := h2.get hd
    have := y vs (SqL.of (mask_same _ _ h1))
    rw [g1] at this
    cases this
    exact ⟨Same.refl _, g2⟩
theorem yields_tup {K : PySem.W.Frag} (p : Addr) (ds : List PyData) : Yields N (Itt K p) ds (SrcT p ds) where
  mono := SrcT.mono
  go := fun i L H hi ⟨vs, h1, h2⟩ => ⟨vs, vs[i]'(by rw [h2.length]; exact hi), SqT.of (mask_same _ _ h1), List.getElem?_eq_getElem _⟩
  stop := fun L H ⟨vs, h1, h2⟩ => ⟨vs, SqT.of (mask_same _ _ h1), by rw [h2.length]; exact Nat.le_refl _⟩
  yld := fun i d L H hd _ ⟨vs, h1, h2⟩ x H' ⟨e, y⟩ => by
    subst e
    obtain ⟨v, g1, g2⟩ := h2.get hd
    have := y vs (SqT.of (mask_same _ _ h1))
    rw [g1] at this
    cases this
    exact ⟨Same.refl _, g2⟩
def enumD : Nat → List PyData → List PyData
  | _, [] => []
  | k, d :: r => .tuple [.int (k : Nat), d] :: enumD (k + 1) r
theorem enumD_len : ∀ (k : Nat) (ds : List PyData), (enumD k ds).length = ds.length
  | _, [] => rfl
  | k, d :: r => by rw [enumD, List.length_cons, enumD_len, List.length_cons]
theorem enumD_get : ∀ (k : Nat) (ds : List PyData) (i : Nat) (x : PyData), (enumD k ds)[i]? = some x → ∃ d, ds[i]? = some d ∧ x = .tuple [.int ((k + i : Nat) : Int), d]
  | _, [], i, x, h => by simp [enumD] at h
  | k, d :: r, 0, x, h => by
    rw [enumD, List.getElem?_cons_zero] at h
    cases h
    exact ⟨d, rfl, rfl⟩
  | k, d :: r, i + 1, x, h => by
    rw [enumD, List.getElem?_cons_succ] at h
    obtain ⟨d', h1, h2⟩ := enumD_get (k + 1) r i x h
    exact ⟨d', h1, by rw [h2]; congr 4; omega⟩
theorem yields_enum {K : PySem.W.Frag} (p : Addr) (ds : List PyData) : Yields N (Ite K p) (enumD 0 ds) (SrcL p ds) where
  mono := SrcL.mono
  go := fun i L H hi ⟨vs, h1, h2⟩ => ⟨vs, vs[i]'(by rw [h2.length]; rw [enumD_len] at hi; exact hi), SqL.of (mask_same _ _ h1), List.getElem?_eq_getElem _⟩
  stop := fun L H ⟨vs, h1, h2⟩ => ⟨vs, SqL.of (mask_same _ _ h1), by rw [h2.length, enumD_len]; exact Nat.le_refl _⟩
  yld := fun i d L H hd live ⟨vs, h1, h2⟩ x H' ⟨T, v, ex, nT, eH, y⟩ => by
    subst ex
    subst eH
    obtain ⟨d', g1, g2⟩ := enumD_get 0 ds i d hd
    subst g2
    obtain ⟨w, g3, g4⟩ := h2.get g1
    have := y vs (SqL.of (mask_same _ _ h1))
    rw [g3] at this
    have ev : w = v := Option.some.inj this
    subst ev
    have sm := same_new (o := .tup [.int (i : Nat), w]) nT
    refine ⟨sm, .tup (mask_of upd_same fun z => live T z nT) (.cons ?_ (.cons (g4.mono (mask_grow sm)) .nil))⟩
    rw [Nat.zero_add]
    exact .int _
/-- i, i - 1, .. -/
def downD (i j : Int) : List PyData := (List.range (i - j).toNat).map fun k => .int (i - (k : Nat))
theorem yields_down (i j : Int) : Yields N (Itc i (-1) (i - j).toNat) (downD i j) (fun _ _ => True) where
  mono := fun _ _ _ _ _ _ => trivial
  go := fun k L H hk _ => by
    unfold downD at hk
    rw [List.length_map, List.length_range] at hk
    exact hk
  stop := fun L H _ => by
    show (i - j).toNat ≤ (downD i j).length
    unfold downD
    rw [List.length_map, List.length_range]
    exact Nat.le_refl _
  yld := fun k d L H hd _ _ x H' ⟨e1, e2⟩ => by
    subst e1
    subst e2
    refine ⟨Same.refl _, ?_⟩
    have hk : k < (i - j).toNat := by
      have := (List.getElem?_eq_some_iff.mp hd).1
      unfold downD at this
      rw [List.length_map, List.length_range] at this
      exact this
    unfold downD at hd
    rw [List.getElem?_map, List.getElem?_range hk] at hd
    cases hd
    have : i + ((k : Nat) : Int) * -1 = i - ((k : Nat) : Int) := by omega
    rw [this]
    exact .int _
/-! ### for with a tuple target -/
@[simp] def mForE (is : List Nat) (mr : M (List RV)) (body : M Flw) (st0 : ST) : R Flw := (mr.bind fun rs => fun st => match escAll rs st with
  | some ([.dat (.list ds)], st') => loopM (putT is) body (enumD 0 ds) st'
  | _ => .stuck) st0
theorem VRels.one {L : List Addr} {as : List (List Addr)} {σ : L2.St} {H : Hp} {vs : List V} {q : RV} (h : VRels L as σ H vs [q]) : ∃ v, vs = [v] ∧ VRel L as σ H v q := by
  cases h with
  | cons h t => cases t; exact ⟨_, rfl, h⟩
theorem at_list {L : List Addr} {as : List (List Addr)} {σ : L2.St} {H : Hp} {v : V} {ds : List PyData} (h : VRel L as σ H v (.dat (.list ds))) : ∃ p, v = .ref p ∧ SrcL p ds L H := by
  have h : At (mask H L) v (.list ds) := h
  cases h with
  | lst h1 h2 => exact ⟨_, rfl, _, h1, h2⟩
theorem at_tup {L : List Addr} {as : List (List Addr)} {σ : L2.St} {H : Hp} {v : V} {ds : List PyData} (h : VRel L as σ H v (.dat (.tuple ds))) : ∃ p, v = .ref p ∧ SrcT p ds L H := by
  have h : At (mask H L) v (.tuple ds) := h
  cases h with
  | tup h1 h2 => exact ⟨_, rfl, _, h1, h2⟩
theorem js_forE {tgs : List Expr} {kk : Nat} {is : List Nat} {n : Nat} {pt p ps : Pos} (hgs : PGs X tgs (gAll is)) (hp : PassesOwn (model X.prog X.w) X.A X.env X.xe) (hm : X.mg "enumerate" = none) (ha : JA X N W [a] mr) (hb : JSs X N W ss m1) (hc : X.calm = true := by rfl) (hgl : Gl X "enumerate" := by rfl)
    (hs : starEach [a] X.env = [(false, eval a X.env)] := by rfl) (hn : (assignEach tgs X.env).length = n := by rfl) (hst : (assignEach tgs X.env).findIdx? (·.1) = none := by rfl) (hni : is.length = n := by rfl) (hfs : ∀ z, foldedSetIterable (.Call (.Name "enumerate" p) [a] [] pos) X.env z = pure z := by intro _; rfl) :
    JS X N W (.For (.Tuple tgs kk pt) (.Call (.Name "enumerate" p) [a] [] pos) ss [] ps) (mForE is mr m1) := by
  refine PS.weak (ps_for hp hc (pi_enum hgl hm ha hs) (pg_tup hc hgs hn hst) hb hfs) fun D σ H ⟨L, as1, st, r, h⟩ => ?_
  refine sem_mono (finS_bind (P1 := VRels) r h) fun vs H1 ⟨L3, as3, s3, rs, r3, v3, f3⟩ => ?_
  cases e1 : escAll rs s3 with
  | none => rw [e1] at f3; exact f3.elim
  | some pq =>
    obtain ⟨q, s4⟩ := pq
    rw [e1] at f3
    obtain ⟨L4, r4, x4, v4, n4⟩ := Rel.escAll r3 v3 e1
    split at f3
    · rename_i ds st' ez
      cases ez
      obtain ⟨v, rfl, hv⟩ := VRels.one v4
      obtain ⟨w, rfl, src⟩ := at_list hv
      obtain ⟨ws, h1, _⟩ := id src
      exact ⟨w, ws, rfl, SqL.of (mask_same _ _ h1), for_yields (yields_enum w ds) (put_tupOk (vs := is) hni fun _ z => z) r4 src (FinS.from f3 x4)⟩
    · exact f3.elim
/-- for a, b in rows -/
@[simp] def mForT (is : List Nat) (me : M RV) (body : M Flw) (st0 : ST) : R Flw := (me.bind fun r => fun st => match st.esc r with
  | some (.dat d, st') => (match seqOf d with
    | some ds => loopM (putT is) body ds st'
    | none => .stuck)
  | _ => .stuck) st0
theorem js_forT {tgs : List Expr} {kk : Nat} {is : List Nat} {n : Nat} {pt : Pos} (hgs : PGs X tgs (gAll is)) (hp : PassesOwn (model X.prog X.w) X.A X.env X.xe) (he : JE X N W e ma) (hb : JSs X N W ss m1) (hc : X.calm = true := by rfl)
    (hn : (assignEach tgs X.env).length = n := by rfl) (hst : (assignEach tgs X.env).findIdx? (·.1) = none := by rfl) (hni : is.length = n := by rfl) (hfs : ∀ z, foldedSetIterable e X.env z = pure z := by intro _; rfl) :
    JS X N W (.For (.Tuple tgs kk pt) e ss [] pos) (mForT is ma m1) := by
  refine PS.weak (ps_for hp hc (pi_seq he) (pg_tup hc hgs hn hst) hb hfs) fun D σ H ⟨L, as1, st, r, h⟩ => ?_
  refine sem_mono (finS_bind (P1 := VRel) r h) fun v H1 ⟨L3, as3, s3, rv, r3, v3, f3⟩ => ?_
  cases e1 : s3.esc rv with
  | none => rw [e1] at f3; exact f3.elim
  | some pq =>
    obtain ⟨q, s4⟩ := pq
    rw [e1] at f3
    obtain ⟨L4, r4, x4, v4, n4⟩ := r3.esc v3 e1
    cases q with
    | bor j => exact absurd rfl (n4 j)
    | hdl j => exact f3.elim
    | dat d =>
      dsimp only at f3
      cases d with
      | none => exact f3.elim
      | bool b => exact f3.elim
      | int b => exact f3.elim
      | str b => exact f3.elim
      | dict b => exact f3.elim
      | list ds =>
        obtain ⟨w, rfl, src⟩ := at_list v4
        obtain ⟨ws, h1, _⟩ := id src
        exact .inl ⟨w, rfl, ⟨ws, SqL.of (mask_same _ _ h1)⟩, for_yields (yields_list w ds) (put_tupOk (vs := is) hni fun _ z => z) r4 src (FinS.from f3 x4)⟩
      | tuple ds =>
        obtain ⟨w, rfl, src⟩ := at_tup v4
        obtain ⟨ws, h1, _⟩ := id src
        exact .inr ⟨w, rfl, ⟨ws, SqT.of (mask_same _ _ h1)⟩, for_yields (yields_tup w ds) (put_tupOk (vs := is) hni fun _ z => z) r4 src (FinS.from f3 x4)⟩
/-- for x in range(i, j, -1) -/
@[simp] def mForD (i : Nat) (mr : M (List RV)) (body : M Flw) (st0 : ST) : R Flw := (mr.bind fun rs => fun st => match lookAll st rs with
  | some [.int k, .int j, .int c] => if c = -1 ∧ (in62 k && in62 j) = true then loopM (putDat i) body (downD k j) st else .stuck
  | _ => .stuck) st0
theorem Paired.three {α β : Type} {F : α → β → Prop} {xs : List α} {b c d : β} (h : Paired F xs [b, c, d]) : ∃ x y z, xs = [x, y, z] ∧ F x b ∧ F y c ∧ F z d := by
  cases h with
  | cons h t => cases t with
    | cons h2 t => cases t with
      | cons h3 t => cases t; exact ⟨_, _, _, rfl, h, h2, h3⟩
theorem js_forD {i : Nat} {x : Str} {px p ps : Pos} (hN : X.N.Nodup) (hp : PassesOwn (model X.prog X.w) X.A X.env X.xe) (hm : X.mg "range" = none) (ha : JA X N W [a, b, c] mr) (hb : JSs X N W ss m1) (hc : X.calm = true := by rfl) (hg : Gl X "range" := by rfl) (hi : X.N[i]? = some x := by rfl) (hx : Loc X.env.scope x := by first | exact Or.inl rfl | exact Or.inr rfl)
    (hf : X.fn x = true ∨ X.env.scope.names.lookup x = some .local := by first | exact .inl rfl | exact .inr rfl | assumption) (hs : starEach [a, b, c] X.env = (false, eval a X.env) :: starEach [b, c] X.env := by rfl) (hpl : (backTo pos (starEach [b, c] X.env)).any (·.1) = false := by rfl) (hfs : ∀ z, foldedSetIterable (.Call (.Name "range" p) [a, b, c] [] pos) X.env z = pure z := by intro _; rfl) :
    JS X N W (.For (.Name x px) (.Call (.Name "range" p) [a, b, c] [] pos) ss [] ps) (mForD i mr m1) := by
  refine PS.weak (ps_for hp hc (pi_range3 hg hm ha hs hpl) (pg_name hN hi hx hf) hb hfs) fun D σ H ⟨L, as1, st, r, h⟩ => ?_
  refine sem_mono (finS_bind (P1 := VRels) r h) fun vs H1 ⟨L3, as3, s3, rs, r3, v3, f3⟩ => ?_
  cases e1 : lookAll s3 rs with
  | none => rw [e1] at f3; exact f3.elim
  | some ds =>
    rw [e1] at f3
    have pr := r3.lookAll v3 e1
    split at f3
    · rename_i k j c ej
      cases ej
      split at f3
      · rename_i hj
        obtain ⟨v, w, z, rfl, hv, hw, hz⟩ := Paired.three pr
        cases hv.int
        cases hw.int
        cases hz.int
        obtain ⟨ec, hj⟩ := hj
        subst ec
        obtain ⟨hk, hj⟩ := Bool.and_eq_true_iff.mp hj
        obtain ⟨b1, b2⟩ := in62_iff hj
        obtain ⟨b3, b4⟩ := in62_iff hk
        exact ⟨k, j, -1, (k - j).toNat, rfl, RgC.neg b3 b4 b1 b2, for_yields (yields_down k j) (put_nameOk (vs := [i]) (by simp)) r3 trivial f3⟩
      · exact f3.elim
    · exact f3.elim
end
end JL
/-! J16: dicts that are made by a comprehension and read; comprehensions with a tuple target. -/
namespace JL
open PySem PySem.Spec PyProof.Rows L2
@[simp] def keyOf : PyData → Option Key
  | .int i => some (.inl i)
  | .str x => some (.inr x)
  | _ => none
section
variable {κ : Type} [DecidableEq κ]
def putKD (kvs : List (κ × PyData)) (k : κ) (d : PyData) : List (κ × PyData) :=
  if (kvs.any fun kv => decide (kv.1 = k)) = true then kvs.map (fun kv => if kv.1 = k then (kv.1, d) else kv) else kvs ++ [(k, d)]
def valD (kvs : List (κ × PyData)) (k : κ) : Option PyData := (kvs.find? fun kv => decide (kv.1 = k)).map (·.2)
theorem KAll.any {F : Hp} {k : κ} : ∀ {ws : List (κ × V)} {kvs : List (κ × PyData)}, KAll F ws kvs → (ws.any fun kv => decide (kv.1 = k)) = (kvs.any fun kv => decide (kv.1 = k))
  | _, _, .nil => rfl
  | _, _, .cons h r => by rw [List.any_cons, List.any_cons, KAll.any r]
theorem KAll.repl {F : Hp} {k : κ} {v : V} {d : PyData} (hv : At F v d) : ∀ {ws : List (κ × V)} {kvs : List (κ × PyData)}, KAll F ws kvs → KAll F (ws.map fun kv => if kv.1 = k then (kv.1, v) else kv) (kvs.map fun kv => if kv.1 = k then (kv.1, d) else kv)
  | _, _, .nil => .nil
  | _, _, .cons (k := q) h r => by
    rw [List.map_cons, List.map_cons]
    by_cases z : q = k
    · simp only [z, if_true]
      exact .cons hv (KAll.repl hv r)
    · simp only [z, if_false]
      exact .cons h (KAll.repl hv r)
theorem KAll.snoc {F : Hp} {k : κ} {v : V} {d : PyData} (hv : At F v d) : ∀ {ws : List (κ × V)} {kvs : List (κ × PyData)}, KAll F ws kvs → KAll F (ws ++ [(k, v)]) (kvs ++ [(k, d)])
  | _, _, .nil => .cons hv .nil
  | _, _, .cons h r => .cons h (KAll.snoc hv r)
theorem KAll.put {F : Hp} {k : κ} {v : V} {d : PyData} (hv : At F v d) {ws : List (κ × V)} {kvs : List (κ × PyData)} (h : KAll F ws kvs) : KAll F (putK ws k v) (putKD kvs k d) := by
  unfold putK putKD
  rw [h.any]
  split
  · exact h.repl hv
  · exact h.snoc hv
theorem KAll.len {F : Hp} : ∀ {ws : List (κ × V)} {kvs : List (κ × PyData)}, KAll F ws kvs → ws.length = kvs.length
  | _, _, .nil => rfl
  | _, _, .cons h r => by rw [List.length_cons, List.length_cons, KAll.len r]
theorem KAll.val {F : Hp} {k : κ} {d : PyData} : ∀ {ws : List (κ × V)} {kvs : List (κ × PyData)}, KAll F ws kvs → valD kvs k = some d → ∃ v, valV ws k = some v ∧ At F v d
  | _, _, .nil, e => by cases e
  | _, _, .cons (k := q) (v := w) (d := f) (ws := ws) (kvs := kvs) h r, e => by
    by_cases z : q = k
    · refine ⟨w, valV_pos z, ?_⟩
      have : valD ((q, f) :: kvs) k = some f := by simp [valD, List.find?_cons, z]
      rw [this] at e
      cases e
      exact h
    · have : valD ((q, f) :: kvs) k = valD kvs k := by simp [valD, List.find?_cons, z]
      rw [this] at e
      obtain ⟨v, h1, h2⟩ := KAll.val r e
      exact ⟨v, by rw [valV_neg z]; exact h1, h2⟩
theorem KAll.valN {F : Hp} {k : κ} : ∀ {ws : List (κ × V)} {kvs : List (κ × PyData)}, KAll F ws kvs → (valV ws k).isSome = (valD kvs k).isSome
  | _, _, .nil => rfl
  | _, _, .cons (k := q) (v := w) (d := f) (ws := ws) (kvs := kvs) h r => by
    by_cases z : q = k
    · have : valD ((q, f) :: kvs) k = some f := by simp [valD, List.find?_cons, z]
      rw [valV_pos z, this]
      rfl
    · have : valD ((q, f) :: kvs) k = valD kvs k := by simp [valD, List.find?_cons, z]
      rw [valV_neg z, this]
      exact KAll.valN r
theorem putKD_len (kvs : List (κ × PyData)) (k : κ) (d : PyData) : (putKD kvs k d).length ≤ kvs.length + 1 := by
  unfold putKD
  split
  · rw [List.length_map]; omega
  · simp
end
/-- the dict of rows: the item at pk is the key, that at pv the value -/
def dictOf (pk pv : Nat) : List PyData → List (Key × PyData) → Option (List (Key × PyData))
  | [], acc => some acc
  | .tuple row :: r, acc => match row[pk]?.bind keyOf, row[pv]? with
    | some k, some d => dictOf pk pv r (putKD acc k d)
    | _, _ => none
  | _ :: _, _ => none
theorem keyOf_at {F : Hp} {v : V} {d : PyData} {k : Key} (h : At F v d) (e : keyOf d = some k) : v = kV k := by
  cases h with
  | int i => cases e; rfl
  | str x => cases e; rfl
  | non => cases e
  | bl b => cases e
  | lst _ _ => cases e
  | tup _ _ => cases e
section
variable {X : Cx} {N : Ent} {W : WX} {e a b c o : Expr} {es : List Expr} {ma mb mc : M RV} {mt mu : M Bool} {mr : M (List RV)} {pos : Pos} {s : Stmt} {ss : List Stmt} {m1 m2 : M Flw}
@[simp] def mDcE (i j pk pv : Nat) (mr : M (List RV)) (st0 : ST) : R RV := (mr.bind fun rs => fun st => match escAll rs st with
  | some ([.dat (.list ds)], st') => (match dictOf pk pv (enumD 0 ds) [] with
    | some kvs => if i < st'.sl.length ∧ j < st'.sl.length ∧ i ≠ j ∧ ds.length < maxLen then .ok (.hdl st'.gs.length) { st' with gs := st'.gs ++ [.dk kvs] } else .stuck
    | none => .stuck)
  | _ => .stuck) st0
/-- the turns of a dict comprehension whose rows are pairs of data -/
theorem dc_pairs {J : It} {i j pk pv : Nat} {vs : List Nat} {its : List PyData} {L : List Addr} {H1 : Hp} {σ : L2.St} {Q : VK} {kvs : List (Key × PyData)} {D : Addr} {K : PySem.W.Frag} (hi : i < σ.length) (hj : j < σ.length) (hij : i ≠ j) (hpk : pk = 0 ∨ pk = 1) (hpv : pv = 0 ∨ pv = 1) (hiv : i ∈ vs) (hjv : j ∈ vs) (hlen : its.length < maxLen) (nD : H1 D = none)
    (hgo : ∀ (k : Nat) Hc, k < its.length → Same H1 Hc → J.go k Hc) (hstop : ∀ Hc, Same H1 Hc → J.stop its.length Hc)
    (hy : ∀ (k : Nat) (row : PyData) Hc, its[k]? = some row → Same H1 Hc → ∀ x H', J.yld k Hc x H' → ∃ T x1 x2 d1 d2, x = .ref T ∧ Hc T = none ∧ H' = upd Hc T (.tup [x1, x2]) ∧ row = .tuple [d1, d2] ∧ At (mask H1 L) x1 d1 ∧ At (mask H1 L) x2 d2)
    (hd : dictOf pk pv its [] = some kvs) (fin : ∀ Hc ws, Same H1 Hc → Hc D = some (.dK ws) → KAll (mask H1 L) ws kvs → Q (.ref D) Hc) :
    ∃ Wv : Nat → Nat → Hp → Prop, (∃ m, Wv 0 m (upd H1 D (.dK []))) ∧ ∀ k m H, Wv k m H → (J.stop k H ∧ Q (.ref D) H) ∨ (J.go k H ∧ ∃ Nx : Hp → Prop, (∀ H', Nx H' → ∃ m', m' < m ∧ Wv (k + 1) m' H') ∧
      ∀ x H', J.yld k H x H' → gTup K 2 (gAll [i, j]) x (L2.wipe σ vs) H' fun σ2 H2 => L2.wipe σ2 vs = L2.wipe σ vs ∧ tYes σ2 H2 fun b H3 =>
        if b = true then tVar (if pk = 0 then i else j) σ2 H3 fun y H4 => tVar (if pv = 0 then i else j) σ2 H4 fun z H5 => ∃ kvs k, y = kV k ∧ H5 D = some (.dK kvs) ∧ kvs.length < sizeLine ∧ Nx (upd H5 D (.dK (putK kvs k z))) else Nx H3) := by
  refine ⟨fun k m Hc => m = its.length - k ∧ k ≤ its.length ∧ ∃ ws acc, Same H1 Hc ∧ Hc D = some (.dK ws) ∧ KAll (mask H1 L) ws acc ∧ acc.length ≤ k ∧ dictOf pk pv (its.drop k) acc = some kvs,
    ⟨_, rfl, Nat.zero_le _, [], [], same_new nD, upd_same, .nil, Nat.le_refl _, hd⟩, ?_⟩
  rintro k m Hc ⟨rfl, hk, ws, acc, sm, hD, hall, hal, hdo⟩
  by_cases hlt : k < its.length
  · right
    have ed : its.drop k = its[k] :: its.drop (k + 1) := List.drop_eq_getElem_cons hlt
    rw [ed] at hdo
    refine ⟨hgo k Hc hlt sm, fun H' => ∃ ws acc, Same H1 H' ∧ H' D = some (.dK ws) ∧ KAll (mask H1 L) ws acc ∧ acc.length ≤ k + 1 ∧ dictOf pk pv (its.drop (k + 1)) acc = some kvs, fun H' q => ⟨_, by omega, rfl, hlt, q⟩, fun x H' yy => ?_⟩
    obtain ⟨T, x1, x2, d1, d2, rfl, nT, rfl, er, a1, a2⟩ := hy k its[k] Hc (List.getElem?_eq_getElem hlt) sm x H' yy
    rw [er] at hdo
    have nTD : D ≠ T := ne_of_none hD nT
    have hl2 : (L2.wipe σ vs).length = σ.length := wipe_len vs
    refine ⟨T, [x1, x2], rfl, SqT.of upd_same, rfl, x1, [x2], rfl, x2, [], rfl, rfl, ?_, ?_⟩
    · rw [wipe_set hjv, wipe_set hiv, wipe_wipe]
    · have g1 : (((L2.wipe σ vs).set i (some x1)).set j (some x2))[i]? = some (some x1) := by
        rw [List.getElem?_set_ne (Ne.symm hij), List.getElem?_set_self (by omega)]
      have g2 : (((L2.wipe σ vs).set i (some x1)).set j (some x2))[j]? = some (some x2) := List.getElem?_set_self (by rw [List.length_set]; omega)
      -- the key's and the value's item
      have pick : ∀ p, p = 0 ∨ p = 1 → ∃ v d, [d1, d2][p]? = some d ∧ At (mask H1 L) v d ∧ (((L2.wipe σ vs).set i (some x1)).set j (some x2))[if p = 0 then i else j]? = some (some v) := fun p hp => by
        rcases hp with rfl | rfl
        · exact ⟨x1, d1, rfl, a1, g1⟩
        · exact ⟨x2, d2, rfl, a2, g2⟩
      obtain ⟨vk, dk, k1, k2, k3⟩ := pick pk hpk
      obtain ⟨vv, dv, v1, v2, v3⟩ := pick pv hpv
      simp only [dictOf, k1, v1, Option.bind_some] at hdo
      cases hke : keyOf dk with
      | none => rw [hke] at hdo; cases hdo
      | some key =>
        rw [hke] at hdo
        dsimp only at hdo
        unfold tYes
        dsimp only
        rw [if_pos rfl]
        refine ⟨vk, k3, vv, v3, ws, key, keyOf_at k2 hke, by rw [upd_ne nTD]; exact hD, ?_, putK ws key vv, putKD acc key dv, ?_, upd_same, hall.put v2, ?_, hdo⟩
        · have h1 := hall.len
          have hm : maxLen ≤ sizeLine := by decide
          omega
        · intro b u hb
          have n1 : b ≠ D := ne_of_none hb nD
          have n2 : b ≠ T := ne_of_none (sm _ _ hb) nT
          rw [upd_ne n1, upd_ne n2]
          exact sm _ _ hb
        · have := putKD_len acc key dv
          omega
  · left
    have ek : k = its.length := by omega
    subst ek
    rw [List.drop_length] at hdo
    cases hdo
    exact ⟨hstop Hc sm, fin Hc ws sm hD hall⟩
/-- behind the dict comprehension: the new dict is of the store -/
theorem Rel.newD {L : List Addr} {as1 : List (List Addr)} {st : ST} {σ : L2.St} {H1 Hc : Hp} {D : Addr} {ws : List (Key × V)} {kvs : List (Key × PyData)} (r : Rel N L as1 st σ H1) (nD : H1 D = none) (sm : Same H1 Hc) (hD : Hc D = some (.dK ws)) (hall : KAll (mask H1 L) ws kvs) :
    Rel N (D :: L) (as1 ++ [[D]]) { st with gs := st.gs ++ [.dk kvs] } σ Hc ∧ Ext L as1 H1 (D :: L) (as1 ++ [[D]]) Hc := by
  have r1 := r.pushG (o := .dK ws) (go := .dk kvs) nD ⟨D, ws, rfl, upd_same, hall.mono (same_guard nD)⟩
  have s2 : Same (upd H1 D (.dK ws)) Hc := fun b u hb => by
    by_cases z : b = D
    · subst z
      rw [upd_same] at hb
      cases hb
      exact hD
    · rw [upd_ne z] at hb
      exact sm _ _ hb
  refine ⟨r1.grow s2, (same_guard nD).trans (mask_grow s2), .app⟩
theorem Same.get {H H' : Hp} (s : Same H H') {p : Addr} {o : HO} (h : H p = some o) : H' p = some o := s _ _ h
theorem je_dcE {tgs : List Expr} {kk i j pk pv : Nat} {kx vx : Expr} {pt p pe : Pos} {scope : Scope} {own : List (Str × Nat)} (hN : X.N.Nodup) (hm : X.mg "enumerate" = none) (ha : JA X N W [a] mr) (ok : BlkOk X.N X.env.scope scope own)
    (hgs : ∀ (s : Shared) (H : Hp) (C : Addr) (cl : List (Str × Addr)) (fp : List Addr), PGs (X.blk s H scope (compEnvC scope cl C X.env) fp) tgs (gAll [i, j]))
    (hk : ∀ (s : Shared) (H : Hp) (C : Addr) (cl : List (Str × Addr)) (fp : List Addr), PE (X.blk s H scope (compEnvC scope cl C X.env) fp) kx (tVar (if pk = 0 then i else j)))
    (hv : ∀ (s : Shared) (H : Hp) (C : Addr) (cl : List (Str × Addr)) (fp : List Addr), PE (X.blk s H scope (compEnvC scope cl C X.env) fp) vx (tVar (if pv = 0 then i else j)))
    (hst2 : ∀ (s : Shared) (H : Hp) (C : Addr) (cl : List (Str × Addr)) (fp : List Addr), (X.blk s H scope (compEnvC scope cl C X.env) fp).calm = true ∧ (assignEach tgs (X.blk s H scope (compEnvC scope cl C X.env) fp).env).length = 2 ∧ (assignEach tgs (X.blk s H scope (compEnvC scope cl C X.env) fp).env).findIdx? (·.1) = none)
    (hpk : pk = 0 ∨ pk = 1 := by decide) (hpv : pv = 0 ∨ pv = 1 := by decide)
    (hiv : i ∈ own.map (·.2) := by decide) (hjv : j ∈ own.map (·.2) := by decide) (hc : X.calm = true := by rfl) (hgl : Gl X "enumerate" := by rfl) (hs : starEach [a] X.env = [(false, eval a X.env)] := by rfl)
    (hfs : ∀ z, foldedSetIterable (.Call (.Name "enumerate" p) [a] [] pe) X.env z = pure z := by intro _; rfl) :
    JE X N W (.DictComp kx vx [⟨.Tuple tgs kk pt, .Call (.Name "enumerate" p) [a] [] pe, [], 0⟩] scope pos) (mDcE i j pk pv mr) := by
  refine PE.weak (pe_dc (g := gTup X.K 2 (gAll [i, j])) hc hN (pi_enum hgl hm ha hs) ok (fun s H C cl fp => pg_tup (hst2 s H C cl fp).1 (hgs s H C cl fp) (hst2 s H C cl fp).2.1 (hst2 s H C cl fp).2.2) (fun _ _ _ _ _ => pts_nil) hk hv hfs) fun σ H Q ⟨L, as1, st, rel, h⟩ => ?_
  refine sem_mono (fin_bind (P1 := VRels) rel h) fun vs H1 ⟨L3, as3, s3, rs, r3, v3, x3, f3⟩ => ?_
  cases e1 : escAll rs s3 with
  | none => rw [e1] at f3; exact f3.elim
  | some pq =>
    obtain ⟨q, s4⟩ := pq
    rw [e1] at f3
    obtain ⟨L4, r4, x4, v4, n4⟩ := Rel.escAll r3 v3 e1
    split at f3
    · rename_i ds st' ez
      cases ez
      obtain ⟨v, rfl, hv⟩ := VRels.one v4
      obtain ⟨w, rfl, src⟩ := at_list hv
      obtain ⟨ws, h1, h2⟩ := id src
      have f4 := Fin.from f3 x4
      split at f4
      · rename_i kvs hd
        split at f4
        · rename_i hl
          obtain ⟨l1, l2, l3, l4⟩ := hl
          refine ⟨w, ws, rfl, SqL.of (mask_same _ _ h1), fun D nD => ?_⟩
          have hw : H1 w = some (.lst ws) := mask_same _ _ h1
          refine dc_pairs (L := L4) (kvs := kvs) (its := enumD 0 ds) (by rw [← r4.len]; exact l1) (by rw [← r4.len]; exact l2) l3 hpk hpv hiv hjv (by rw [enumD_len]; exact l4) nD
            (fun k Hc hk sm => ⟨ws, ws[k]'(by rw [h2.length]; rw [enumD_len] at hk; exact hk), SqL.of (sm _ _ hw), List.getElem?_eq_getElem _⟩)
            (fun Hc sm => ⟨ws, SqL.of (sm _ _ hw), by rw [h2.length, enumD_len]; exact Nat.le_refl _⟩)
            (fun k row Hc hr sm x H' ⟨T, y, ex, nT, eH, yy⟩ => ?_) hd fun Hc zs sm hD hall => ?_
          · obtain ⟨d', g1, g2⟩ := enumD_get 0 ds k row hr
            obtain ⟨u, g3, g4⟩ := h2.get g1
            have := yy ws (SqL.of (sm _ _ hw))
            rw [g3] at this
            have ev : u = y := Option.some.inj this
            subst ev
            refine ⟨T, .int (k : Nat), u, .int (k : Nat), d', ex, nT, eH, ?_, .int _, g4⟩
            rw [g2, Nat.zero_add]
          · obtain ⟨r5, x5⟩ := r4.newD nD sm hD hall
            refine f4 _ _ (.ref D) Hc r5 ⟨D, [], ?_, rfl⟩ x5
            have gl : s4.gs.length = as3.length := r4.g.glen.symm
            rw [gl, List.getElem?_append_right (Nat.le_refl _), Nat.sub_self]
            rfl
        · exact f4.elim
      · exact f4.elim
    · exact f3.elim
/-- d[k] -/
@[simp] def mDget (md mk : M RV) (st0 : ST) : R RV := (md.bind fun a => mk.bind fun b => fun st => match a with
  | .hdl j => (match st.gs[j]?, (st.look b).bind keyOf with
    | some (.dk kvs), some k => outO (valD kvs k) st
    | _, _ => .stuck)
  | _ => .stuck) st0
theorem Rdb.key {H : Hp} {L : List Addr} {v : V} {d : PyData} {k : Key} (h : Rdb H L v d) (e : keyOf d = some k) : v = kV k := by
  cases h with
  | «at» h => exact keyOf_at h e
  | own _ _ => cases e
theorem je_dget (ho : JE X N W o ma) (hi : JE X N W b mb) (hu : X.A.units + 65 < cLine) (hs : NoSl b := by exact fun _ _ => rfl) : JE X N W (.Subscript o b pos) (mDget ma mb) := by
  refine PE.weak (pe_dget (by omega) ho hi hs) fun σ H Q ⟨L, as1, st, rel, h⟩ => ?_
  refine sem_mono (fin_bind (P1 := VRel) rel h) fun v H1 ⟨L3, as3, s3, rv3, r3, v3, x3, f3⟩ => ?_
  refine sem_mono (fin_bind (P1 := VRel) r3 f3) fun w H2 ⟨L6, as6, s6, rv6, r6, v6, x6, f6⟩ => ?_
  have v3' := v3.ext x6
  cases rv3 with
  | dat d => exact f6.elim
  | bor i => exact f6.elim
  | hdl j =>
    obtain ⟨p, fp, hp, rfl⟩ := v3'
    dsimp only at f6
    split at f6
    · rename_i kvs k e1 e2
      obtain ⟨q, ws, ef, hq, hall⟩ := r6.g.gok j _ _ e1 hp
      cases ef
      cases e3 : s6.look rv6 with
      | none => rw [e3] at e2; cases e2
      | some d =>
        rw [e3] at e2
        simp only [Option.bind_some] at e2
        cases e4 : valD kvs k with
        | none => rw [e4] at f6; exact f6.elim
        | some g =>
          rw [e4] at f6
          obtain ⟨y, y1, y2⟩ := hall.val e4
          refine ⟨p, y, rfl, ?_, fin_dat r6 f6 (Same.refl _) y2⟩
          rw [(r6.look v6 e3).key e2, ← y1]
          exact DGet.k hq
    · exact f6.elim
/-! ### comprehensions with a tuple target, over rows -/
@[simp] def mLcT (vs is : List Nat) (ma : M RV) (tt : M Bool) (el : M RV) (st0 : ST) : R RV := (ma.bind fun r => fun st => match st.esc r with
  | some (.dat d, st') => (match seqOf d with
    | some ds => compAll vs (putT is) tt el ds st'
    | none => .stuck)
  | _ => .stuck) st0
theorem sem_lcT {vs is : List Nat} {n : Nat} (hn : is.length = n) (hi : ∀ i ∈ is, i ∈ vs) {tt : M Bool} {el : M RV} {K K' : PySem.W.Frag} {σ : L2.St} {H : Hp} {Q : VK} (h : semE N W (mLcT vs is ma tt el) σ H Q) : tLc (iSeq K (semE N W ma)) (gTup K' n (gAll is)) (semT N W0 tt) (semE N W0 el) vs σ H Q := by
  obtain ⟨L, as1, st, rel, h⟩ := h
  refine sem_mono (fin_bind (P1 := VRel) rel h) fun v H1 ⟨L3, as3, s3, rv, r3, v3, x3, f3⟩ => ?_
  cases e1 : s3.esc rv with
  | none => rw [e1] at f3; exact f3.elim
  | some pq =>
    obtain ⟨q, s4⟩ := pq
    rw [e1] at f3
    obtain ⟨L4, r4, x4, v4, n4⟩ := r3.esc v3 e1
    cases q with
    | bor j => exact absurd rfl (n4 j)
    | hdl j => exact f3.elim
    | dat d =>
      dsimp only at f3
      cases d with
      | none => exact f3.elim
      | bool b => exact f3.elim
      | int b => exact f3.elim
      | str b => exact f3.elim
      | dict b => exact f3.elim
      | list ds =>
        obtain ⟨w, rfl, src⟩ := at_list v4
        obtain ⟨ws, h1, _⟩ := id src
        exact .inl ⟨w, rfl, ⟨ws, SqL.of (mask_same _ _ h1)⟩, comp_yields (W := W) (yields_list w ds) (put_tupOk hn hi) r4 src (Fin.from f3 x4)⟩
      | tuple ds =>
        obtain ⟨w, rfl, src⟩ := at_tup v4
        obtain ⟨ws, h1, _⟩ := id src
        exact .inr ⟨w, rfl, ⟨ws, SqT.of (mask_same _ _ h1)⟩, comp_yields (W := W) (yields_tup w ds) (put_tupOk hn hi) r4 src (Fin.from f3 x4)⟩
variable {elt : Expr} {ifs : List Expr} {scope : Scope} {own : List (Str × Nat)} {tt : M Bool} {el : M RV}
theorem je_lcT {tgs : List Expr} {kk n : Nat} {is : List Nat} {pt : Pos} (hN : X.N.Nodup) (hs : JE X N W e ma) (ok : BlkOk X.N X.env.scope scope own)
    (hgs : ∀ (s : Shared) (H : Hp) (C : Addr) (cl : List (Str × Addr)) (fp : List Addr), PGs (X.blk s H scope (compEnvC scope cl C X.env) fp) tgs (gAll is))
    (hst2 : ∀ (s : Shared) (H : Hp) (C : Addr) (cl : List (Str × Addr)) (fp : List Addr), (X.blk s H scope (compEnvC scope cl C X.env) fp).calm = true ∧ (assignEach tgs (X.blk s H scope (compEnvC scope cl C X.env) fp).env).length = n ∧ (assignEach tgs (X.blk s H scope (compEnvC scope cl C X.env) fp).env).findIdx? (·.1) = none)
    (ht : ∀ (s : Shared) (H : Hp) (C : Addr) (cl : List (Str × Addr)) (fp : List Addr), JTs (X.blk s H scope (compEnvC scope cl C X.env) fp) N ifs tt) (he : ∀ (s : Shared) (H : Hp) (C : Addr) (cl : List (Str × Addr)) (fp : List Addr), JE (X.blk s H scope (compEnvC scope cl C X.env) fp) N W0 elt el)
    (hn : is.length = n := by rfl) (hi : ∀ i ∈ is, i ∈ own.map (·.2) := by decide) (hc : X.calm = true := by rfl) (hfs : ∀ z, foldedSetIterable e X.env z = pure z := by intro _; rfl) : JE X N W (.ListComp elt [⟨.Tuple tgs kk pt, e, ifs, 0⟩] scope pos) (mLcT (own.map (·.2)) is ma tt el) :=
  PE.weak (pe_lc (g := gTup X.K n (gAll is)) hc hN (pi_seq hs) ok (fun s H C cl fp => pg_tup (hst2 s H C cl fp).1 (hgs s H C cl fp) (hst2 s H C cl fp).2.1 (hst2 s H C cl fp).2.2) ht he hfs) fun σ H Q h => sem_lcT hn hi h
end
end JL
/-! J17: targets of a list; max, min, abs of ints. -/
namespace JL
open PySem PySem.Spec PyProof.Rows L2
section
variable {X : Cx} {N : Ent} {W : WX} {e a b c o : Expr} {es : List Expr} {ma mb mc : M RV} {mt mu : M Bool} {mr : M (List RV)} {pos : Pos} {s : Stmt} {ss : List Stmt} {m1 m2 : M Flw}
@[simp] def mUnpackL (is : List Nat) (n : Nat) (me : M RV) (st0 : ST) : R Flw := (me.bind fun r => fun st => match st.look r with
  | some (.list ds) => if ds.length = is.length ∧ is.all (fun i => decide (i < st.sl.length)) = true then .ok .nx { st with sl := putAll is ds st.sl } else .stuck
  | _ => .stuck) st0
theorem js_unpackL {tgs : List Expr} {k : Nat} {is : List Nat} {n : Nat} {pt : Pos} (hg : PGs X tgs (gAll is)) (he : JE X N W e ma) (hc : X.calm = true := by rfl) (hn : (assignEach tgs X.env).length = n := by rfl) (hst : (assignEach tgs X.env).findIdx? (·.1) = none := by rfl)
    (hs : swapsWithSole [.Tuple tgs k pt] e pos.line X.env = pure false := by rfl) (hw : swappedStores [.Tuple tgs k pt] e X.env = pure none := by rfl) (h1 : (assignEach [.Tuple tgs k pt] X.env).map (·.2) = [assign (.Tuple tgs k pt) X.env] := by rfl) (hni : is.length = n := by rfl) :
    JS X N W (.Assign [.Tuple tgs k pt] e pos) (mUnpackL is n ma) := by
  refine PS.weak (ps_asg he (pg_lst hc hg hn hst) hs hw h1) fun D σ H ⟨L, as1, st, rel, h⟩ => ?_
  refine sem_mono (finS_bindX (P1 := VRel) rel h) fun v H1 ⟨L3, as3, s3, rv, r3, v3, x3, f3⟩ => ?_
  split at f3
  · rename_i ds e1
    split at f3
    · rename_i hl
      obtain ⟨q, vs, rfl, hq, hqs⟩ := (r3.look v3 e1).list
      refine ⟨q, vs, rfl, SqL.of hq, by rw [hqs.length, hl.1, hni], ?_⟩
      refine put_all is vs ds s3 σ r3 hqs hl.1 (fun i hi => ?_) fun σ' r' => f3 L3 as3 σ' H1 r' .refl
      have := List.all_eq_true.mp hl.2 i hi
      simpa using this
    · exact f3.elim
  · exact f3.elim
@[simp] def max2D : List PyData → Option PyData
  | [.int i, .int j] => some (.int (if j > i then j else i))
  | _ => none
@[simp] def min2D : List PyData → Option PyData
  | [.int i, .int j] => some (.int (if j < i then j else i))
  | _ => none
@[simp] def abs1D : List PyData → Option PyData
  | [.int i] => some (.int (if i < 0 then -i else i))
  | _ => none
theorem pure_max2 : PureC (fun xs H Q => ∃ i j, xs = [.int i, .int j] ∧ Q (.int (if j > i then j else i)) H) max2D := by
  intro xs H L Q ds g live h he k
  unfold max2D at he
  split at he
  · cases he
    obtain ⟨v, w, rfl, hv, hw⟩ := Paired.two h
    exact ⟨_, _, by rw [hv.int, hw.int], k _ _ (Same.refl _) (.int _)⟩
  · cases he
theorem pure_min2 : PureC (fun xs H Q => ∃ i j, xs = [.int i, .int j] ∧ Q (.int (if j < i then j else i)) H) min2D := by
  intro xs H L Q ds g live h he k
  unfold min2D at he
  split at he
  · cases he
    obtain ⟨v, w, rfl, hv, hw⟩ := Paired.two h
    exact ⟨_, _, by rw [hv.int, hw.int], k _ _ (Same.refl _) (.int _)⟩
  · cases he
theorem pure_abs1 : PureC (fun xs H Q => ∃ i, xs = [.int i] ∧ Q (.int (if i < 0 then -i else i)) H) abs1D := by
  intro xs H L Q ds g live h he k
  unfold abs1D at he
  split at he
  · cases he
    obtain ⟨v, rfl, hv⟩ := Paired.one h
    exact ⟨_, by rw [hv.int], k _ _ (Same.refl _) (.int _)⟩
  · cases he
end
end JL
/-! J18: zip of a list and a tuple. -/
namespace JZ
open PySem PySem.Spec PyProof.Rows L2
/-- one of the iterators of a zip: T tells where it stands, S the items of what it reads -/
structure Nx (P : Program) (w : World) (T : Heap → Nat → Prop) (S : Heap → Array Value → Prop) (it l : Addr) : Prop where
  item : ∀ {A : Around} {s : Shared} {E : Value → Shared → Prop} {k : Nat} {xs : Array Value} {x : Value} {Q : Value → Shared → Prop}, T s.heap k → S s.heap xs → xs[k]? = some x →
    (∀ g, T g (k + 1) → Heap.SameBut it s.heap g → Q x { s with heap := g }) → wpAny (model P w) A (Builtin.SmallTypes.nextOf (.ref it)) Q E s
  stop : ∀ {A : Around} {s : Shared} {E : Value → Shared → Prop} {k : Nat} {xs : Array Value} {Q : Value → Shared → Prop}, A.handled = none → T s.heap k → S s.heap xs → xs[k]? = none →
    (∀ g e, Heap.ExtBut it s.heap g → (∃ o, g.get? e = some o ∧ o.cls = .type "StopIteration") → E (.ref e) { s with heap := g }) → wpAny (model P w) A (Builtin.SmallTypes.nextOf (.ref it)) Q E s
  keepT : ∀ {g g' : Heap} {k : Nat}, T g k → (∀ o, g.get? it = some o → g'.get? it = some o) → T g' k
  keepS : ∀ {g g' : Heap} {xs : Array Value}, S g xs → (∀ o, g.get? l = some o → g'.get? l = some o) → S g' xs
  obj : ∀ {g : Heap} {k : Nat}, T g k → ∃ o, g.get? it = some o ∧ ∀ v, o.data ≠ .cell v
theorem nx_list {P : Program} {w : World} (it l : Addr) : Nx P w (fun g k => g.IsListIter it l k) (fun g xs => g.IsList l xs) it l where
  item := fun t sx hx q => wpAny_nextOf_list_item t sx hx q
  stop := fun hh t sx hx q => wpAny_nextOf_list_end hh t sx hx q
  keepT := fun t k => t.at k
  keepS := fun ⟨o, ho, r⟩ k => ⟨o, k o ho, r⟩
  obj := fun ⟨o, ho, _, hd⟩ => ⟨o, ho, fun v z => by rw [hd] at z; cases z⟩
theorem nx_tup {P : Program} {w : World} (it l : Addr) : Nx P w (fun g k => g.IsTupleIter it l k) (fun g xs => g.IsTuple l xs) it l where
  item := fun t sx hx q => RZ.nextOf_tuple_item t sx hx q
  stop := fun hh t sx hx q => RZ.nextOf_tuple_end hh t sx hx q
  keepT := fun t k => t.at k
  keepS := fun ⟨o, ho, r⟩ k => ⟨o, k o ho, r⟩
  obj := fun ⟨o, ho, _, hd⟩ => ⟨o, ho, fun v z => by rw [hd] at z; cases z⟩
section
variable {P : Program} {w : World} {A : Around} {E : Value → Shared → Prop} {s : Shared} {T1 T2 : Heap → Nat → Prop} {S1 S2 : Heap → Array Value → Prop} {z ti tp i1 i2 l1 l2 : Addr} {k1 k2 : Nat} {xs ys : Array Value} {x y a b : Value}
theorem step_item (n1 : Nx P w T1 S1 i1 l1) (n2 : Nx P w T2 S2 i2 l2) {Q : Value → Shared → Prop} (D : ZipApart z ti tp i1 i2 l1 l2)
    (hz : IsZip s.heap z ti tp .none) (hi : IsPair s.heap ti (.ref i1) (.ref i2)) (ht : IsPair s.heap tp a b)
    (t1 : T1 s.heap k1) (t2 : T2 s.heap k2) (q1 : S1 s.heap xs) (q2 : S2 s.heap ys) (hx : xs[k1]? = some x) (hy : ys[k2]? = some y)
    (fin : ∀ g, IsZip g z ti tp (rawInt s.heap.objs.size) → IsPair g tp x y → T1 g (k1 + 1) → T2 g (k2 + 1) → IsPair g s.heap.objs.size x y → g.objs.size = s.heap.objs.size + 1 →
      (∀ c o, c ≠ z → c ≠ tp → c ≠ i1 → c ≠ i2 → s.heap.get? c = some o → g.get? c = some o) → Q (.ref s.heap.objs.size) { s with heap := g }) :
    wpAny (model P w) A (Builtin.«zip.__next__» ⟨[.ref z], []⟩) (fun r s' => ∃ v, r = .done (.ret v) ∧ Q v s') E s := by
  show wpAny _ _ (field (.ref z) 2 >>= _) _ _ s
  refine wpAny_bind
    (wpAny_field hz rfl (x := .bool false) rfl ?_)
  show wpAny _ _ (field (.ref z) 3 >>= _) _ _ s
  refine wpAny_bind
    (wpAny_field hz rfl (x := .ref ti) rfl ?_)
  refine wpAny_bind (wpAny_seqItems hi rfl ?_)
  show wpAny _ _
    (Builtin.SmallTypes.ownedTupleIsFree (.ref z) >>= _) _ _ s
  refine wpAny_bind ?_
  unfold Builtin.SmallTypes.ownedTupleIsFree
  refine wpAny_bind
    (wpAny_field hz rfl (x := .none) rfl (wpAny_pure ?_))
  simp only [if_true]
  refine wpAny_bind
    (wpAny_rule ?_)
  refine wpAny_bind (wpAny_field hz rfl (x := .ref tp) rfl ?_)
  refine wpAny_bind (wpAny_setField_rec hz (by simp) fun g1 z1 m1 => ?_)
  replace z1 : IsZip g1 z ti tp .ellipsis := z1
  refine wpAny_bind ?_
  simp only [List.zipIdx_cons, List.zipIdx_nil,
    List.forIn_cons, List.forIn_nil]
  refine wpAny_bind
    (wpAny_bind (wpAny_onRaise ?_))
  show wpAny _ _
    (Builtin.SmallTypes.nextOf (.ref i1) >>= _) _ _ _
  refine wpAny_bind (n1.item (n1.keepT t1 fun o e => m1.extBut _ _ D.i1z e) (n1.keepS q1 fun o e => m1.extBut _ _ D.l1z e) hx fun g2 t12 m2 => wpAny_pure ?_)
  have p2 : IsPair g2 tp a b := m2.extBut _ _ D.TOi1 (m1.extBut _ _ D.TOz ht)
  refine wpAny_bind (wpAny_seqItems p2 rfl ?_)
  refine wpAny_bind (wpAny_updateSeq_pair p2 fun g3 p3 m3 => ?_)
  replace p3 : IsPair g3 tp x b := p3
  refine wpAny_bind
    (wpAny_letGo (wpAny_pure ?_))
  refine wpAny_bind
    (wpAny_bind (wpAny_onRaise ?_))
  show wpAny _ _
    (Builtin.SmallTypes.nextOf (.ref i2) >>= _) _ _ _
  have up3 : ∀ c o, c ≠ z → c ≠ i1 → c ≠ tp → s.heap.get? c = some o → g3.get? c = some o := fun c o c1 c2 c3 e => m3.extBut _ _ c3 (m2.extBut _ _ c2 (m1.extBut _ _ c1 e))
  refine wpAny_bind (n2.item (n2.keepT t2 fun o e => up3 _ o D.i2z D.i12.symm D.TOi2.symm e) (n2.keepS q2 fun o e => up3 _ o D.l2z D.l2i1 D.l2TO e) hy fun g4 t24 m4 => wpAny_pure ?_)
  have p4 : IsPair g4 tp x b := m4.extBut _ _ D.TOi2 p3
  refine wpAny_bind (wpAny_seqItems p4 rfl ?_)
  refine wpAny_bind (wpAny_updateSeq_pair p4 fun g5 p5 m5 => ?_)
  replace p5 : IsPair g5 tp x y := p5
  refine wpAny_bind
    (wpAny_letGo (wpAny_pure (wpAny_pure ?_)))
  refine wpAny_bind (wpAny_seqItems p5 rfl ?_)
  refine wpAny_bind (wpAny_newTuple ?_)
  have es : g5.objs.size = s.heap.objs.size := by rw [m5.1, m4.1, m3.1, m2.1, m1.1]
  have z5 : IsZip g5 z ti tp .ellipsis := m5.extBut _ _ D.TOz.symm (m4.extBut _ _ D.i2z.symm (m3.extBut _ _ D.TOz.symm (m2.extBut _ _ D.i1z.symm z1)))
  have up5 : ∀ c o, c ≠ z → c ≠ tp → c ≠ i1 → c ≠ i2 → s.heap.get? c = some o → g5.get? c = some o := fun c o c1 c2 c3 c4 e => m5.extBut _ _ c2 (m4.extBut _ _ c4 (up3 c o c1 c3 c2 e))
  have t15 : T1 g5 (k1 + 1) := n1.keepT t12 fun o e => m5.extBut _ _ D.TOi1.symm (m4.extBut _ _ D.i12 (m3.extBut _ _ D.TOi1.symm e))
  have t25 : T2 g5 (k2 + 1) := n2.keepT t24 fun o e => m5.extBut _ _ D.TOi2.symm e
  have lz : z < g5.objs.size := Heap.lt_size z5
  show wpAny _ _
    (Builtin.SmallTypes.ownedTupleHandOut (.ref z) (.ref g5.objs.size) >>= _) _ _ _
  refine wpAny_bind ?_
  unfold Builtin.SmallTypes.ownedTupleHandOut
  have z6 : IsZip (g5.push { cls := .type "tuple", data := .seq #[x, y] }) z ti tp .ellipsis := Heap.get?_push_of_some _ z5
  refine wpAny_bind (wpAny_setField_rec z6 (by simp) fun g7 z7 m7 => ?_)
  replace z7 : IsZip g7 z ti tp (rawInt g5.objs.size) := z7
  refine wpAny_setField_rec z7 (by simp) fun g8 z8 m8 => ?_
  replace z8 : IsZip g8 z ti tp (rawInt g5.objs.size) := z8
  have up8 : ∀ c o, c ≠ z → g5.get? c = some o → g8.get? c = some o := fun c o c1 e => m8.extBut _ _ c1 (m7.extBut _ _ c1 (Heap.get?_push_of_some _ e))
  have n8 : IsPair g8 g5.objs.size x y := m8.extBut _ _ (Nat.ne_of_gt lz) (m7.extBut _ _ (Nat.ne_of_gt lz) (Heap.get?_push_size _ rfl))
  have e8 : g8.objs.size = g5.objs.size + 1 := by rw [m8.1, m7.1, Heap.size_push]
  rw [es] at z8 n8 e8
  refine wpAny_pure ⟨_, rfl, ?_⟩
  show Q (.ref g5.objs.size) _
  rw [es]
  exact fin g8 z8 (up8 _ _ D.TOz p5) (n1.keepT t15 fun o e => up8 _ o D.i1z e) (n2.keepT t25 fun o e => up8 _ o D.i2z e) n8 e8 fun c o c1 c2 c3 c4 e => up8 c o c1 (up5 c o c1 c2 c3 c4 e)
theorem step_end (n1 : Nx P w T1 S1 i1 l1) (n2 : Nx P w T2 S2 i2 l2) {Q : PySem.Fin → Shared → Prop} (hh : A.handled = none) (D : ZipApart z ti tp i1 i2 l1 l2)
    (hz : IsZip s.heap z ti tp .none) (hi : IsPair s.heap ti (.ref i1) (.ref i2)) (ht : IsPair s.heap tp a b)
    (t1 : T1 s.heap k1) (t2 : T2 s.heap k2) (q1 : S1 s.heap xs) (q2 : S2 s.heap ys) (hend : xs[k1]? = none ∨ ys[k2]? = none)
    (fin : ∀ g e, (∀ c o, c ≠ z → c ≠ tp → c ≠ i1 → c ≠ i2 → s.heap.get? c = some o → g.get? c = some o) → (∃ o, g.get? e = some o ∧ o.cls = .type "StopIteration") → E (.ref e) { s with heap := g }) :
    wpAny (model P w) A (Builtin.«zip.__next__» ⟨[.ref z], []⟩) Q E s := by
  show wpAny _ _ (field (.ref z) 2 >>= _) _ _ s
  refine wpAny_bind
    (wpAny_field hz rfl (x := .bool false) rfl ?_)
  show wpAny _ _ (field (.ref z) 3 >>= _) _ _ s
  refine wpAny_bind
    (wpAny_field hz rfl (x := .ref ti) rfl ?_)
  refine wpAny_bind (wpAny_seqItems hi rfl ?_)
  show wpAny _ _
    (Builtin.SmallTypes.ownedTupleIsFree (.ref z) >>= _) _ _ s
  refine wpAny_bind ?_
  unfold Builtin.SmallTypes.ownedTupleIsFree
  refine wpAny_bind
    (wpAny_field hz rfl (x := .none) rfl (wpAny_pure ?_))
  simp only [if_true]
  refine wpAny_bind
    (wpAny_rule ?_)
  refine wpAny_bind (wpAny_field hz rfl (x := .ref tp) rfl ?_)
  refine wpAny_bind (wpAny_setField_rec hz (by simp) fun g1 z1 m1 => ?_)
  replace z1 : IsZip g1 z ti tp .ellipsis := z1
  refine wpAny_bind ?_
  simp only [List.zipIdx_cons, List.zipIdx_nil,
    List.forIn_cons, List.forIn_nil]
  refine wpAny_bind
    (wpAny_bind (wpAny_onRaise ?_))
  show wpAny _ _
    (Builtin.SmallTypes.nextOf (.ref i1) >>= _) _ _ _
  have t11 := n1.keepT t1 fun o e => m1.extBut _ _ D.i1z e
  have q11 := n1.keepS q1 fun o e => m1.extBut _ _ D.l1z e
  cases hx : xs[k1]? with
  | none =>
    refine wpAny_bind (n1.stop hh t11 q11 hx fun g2 e m2 he => ?_)
    obtain ⟨oe, h1, h2⟩ := he
    have z2 : IsZip g2 z ti tp .ellipsis := m2 _ _ D.i1z.symm z1
    have nez : e ≠ z := fun q => by
      subst q
      rw [z2] at h1
      cases h1
      simp at h2
    refine wpAny_setField_rec z2 (by simp) fun g3 _ m3 => fin g3 e (fun c o c1 _ c3 _ q => m3.extBut _ _ c1 (m2 _ _ c3 (m1.extBut _ _ c1 q))) ⟨oe, m3.extBut _ _ nez h1, h2⟩
  | some x =>
    have hy : ys[k2]? = none := by
      rcases hend with q | q
      · rw [hx] at q; cases q
      · exact q
    refine wpAny_bind (n1.item t11 q11 hx fun g2 t12 m2 => wpAny_pure ?_)
    have p2 : IsPair g2 tp a b := m2.extBut _ _ D.TOi1 (m1.extBut _ _ D.TOz ht)
    refine wpAny_bind (wpAny_seqItems p2 rfl ?_)
    refine wpAny_bind (wpAny_updateSeq_pair p2 fun g3 p3 m3 => ?_)
    refine wpAny_bind
      (wpAny_letGo (wpAny_pure ?_))
    refine wpAny_bind
      (wpAny_bind (wpAny_onRaise ?_))
    show wpAny _ _
      (Builtin.SmallTypes.nextOf (.ref i2) >>= _) _ _ _
    have up3 : ∀ c o, c ≠ z → c ≠ i1 → c ≠ tp → s.heap.get? c = some o → g3.get? c = some o := fun c o c1 c2 c3 e => m3.extBut _ _ c3 (m2.extBut _ _ c2 (m1.extBut _ _ c1 e))
    refine wpAny_bind (n2.stop hh (n2.keepT t2 fun o e => up3 _ o D.i2z D.i12.symm D.TOi2.symm e) (n2.keepS q2 fun o e => up3 _ o D.l2z D.l2i1 D.l2TO e) hy fun g4 e m4 he => ?_)
    obtain ⟨oe, h1, h2⟩ := he
    have z4 : IsZip g4 z ti tp .ellipsis := m4 _ _ D.i2z.symm (m3.extBut _ _ D.TOz.symm (m2.extBut _ _ D.i1z.symm z1))
    have nez : e ≠ z := fun q => by
      subst q
      rw [z4] at h1
      cases h1
      simp at h2
    refine wpAny_setField_rec z4 (by simp) fun g5 _ m5 => fin g5 e (fun c o c1 c2 c3 c4 q => m5.extBut _ _ c1 (m4 _ _ c4 (up3 c o c1 c3 c2 q))) ⟨oe, m5.extBut _ _ nez h1, h2⟩
theorem py_item (n1 : Nx P w T1 S1 i1 l1) (n2 : Nx P w T2 S2 i2 l2) {Q : Option Value → Shared → Prop} (D : ZipApart z ti tp i1 i2 l1 l2)
    (hz : IsZip s.heap z ti tp .none) (hi : IsPair s.heap ti (.ref i1) (.ref i2)) (ht : IsPair s.heap tp a b)
    (t1 : T1 s.heap k1) (t2 : T2 s.heap k2) (q1 : S1 s.heap xs) (q2 : S2 s.heap ys) (hx : xs[k1]? = some x) (hy : ys[k2]? = some y)
    (fin : ∀ g, IsZip g z ti tp (rawInt s.heap.objs.size) → IsPair g tp x y → T1 g (k1 + 1) → T2 g (k2 + 1) → IsPair g s.heap.objs.size x y → g.objs.size = s.heap.objs.size + 1 →
      (∀ c o, c ≠ z → c ≠ tp → c ≠ i1 → c ≠ i2 → s.heap.get? c = some o → g.get? c = some o) → Q (some (.ref s.heap.objs.size)) { s with heap := g }) :
    wpAny (model P w) A (pyNext (.ref z)) Q E s := by
  have ty : s.TypeIs (.ref z) "zip" := ⟨_, hz, rfl⟩
  unfold pyNext
  exact wpAny_bind (wpAny_attempt (wpAny_callSpecial?_slot (name := Str.ofString "__next__") ty F.slot_zip_next (wpAny_call_entry F.slot_zip_next ty F.entry_zip_next
    (step_item n1 n2 D hz hi ht t1 t2 q1 q2 hx hy fun g a1 a2 a3 a4 a5 a6 a7 => wpAny_pure (fin g a1 a2 a3 a4 a5 a6 a7)) (F.args_zip_next_1 _))))
theorem py_end (n1 : Nx P w T1 S1 i1 l1) (n2 : Nx P w T2 S2 i2 l2) {Q : Option Value → Shared → Prop} (hh : A.handled = none) (D : ZipApart z ti tp i1 i2 l1 l2)
    (hz : IsZip s.heap z ti tp .none) (hi : IsPair s.heap ti (.ref i1) (.ref i2)) (ht : IsPair s.heap tp a b)
    (t1 : T1 s.heap k1) (t2 : T2 s.heap k2) (q1 : S1 s.heap xs) (q2 : S2 s.heap ys) (hend : xs[k1]? = none ∨ ys[k2]? = none)
    (fin : ∀ g, (∀ c o, c ≠ z → c ≠ tp → c ≠ i1 → c ≠ i2 → s.heap.get? c = some o → g.get? c = some o) → Q none { s with heap := g }) : wpAny (model P w) A (pyNext (.ref z)) Q E s := by
  have ty : s.TypeIs (.ref z) "zip" := ⟨_, hz, rfl⟩
  unfold pyNext
  refine wpAny_bind (wpAny_attempt (wpAny_callSpecial?_slot (name := Str.ofString "__next__") ty F.slot_zip_next (wpAny_call_entry F.slot_zip_next ty F.entry_zip_next
    (step_end n1 n2 hh D hz hi ht t1 t2 q1 q2 hend fun g e up he => ?_) (F.args_zip_next_1 _))))
  obtain ⟨o, h1, h2⟩ := he
  refine wpAny_bind (wpAny_isInstance (T := "StopIteration") (b := true) ⟨o, h1, h2⟩ isSubtype_stop ?_)
  exact wpAny_pure (fin _ up)
end
/-! ### the making of the zip -/
abbrev itO (t : String) (l : Addr) : Obj := { cls := .type t, data := .fields #[.ref l, .int 0 0] }
abbrev G2 (t1 t2 : String) (h : Heap) (l1 l2 : Addr) : Heap := (h.push (itO t1 l1)).push (itO t2 l2)
abbrev G3 (t1 t2 : String) (h : Heap) (l1 l2 : Addr) : Heap := (G2 t1 t2 h l1 l2).push { cls := .type "tuple", data := .seq #[.ref h.objs.size, .ref (h.push (itO t1 l1)).objs.size] }
abbrev G4 (t1 t2 : String) (h : Heap) (l1 l2 : Addr) : Heap := (G3 t1 t2 h l1 l2).push { cls := .type "tuple", data := .seq #[.none, .none] }
abbrev G5 (t1 t2 : String) (h : Heap) (l1 l2 : Addr) : Heap := (G4 t1 t2 h l1 l2).push { cls := .type "zip", data := .fields #[.none, .bool false, .bool false, .ref (G2 t1 t2 h l1 l2).objs.size, .ref (G3 t1 t2 h l1 l2).objs.size] }
theorem new_lt (l1 l2 : Addr) (xs ys : Array Value) : Meets (Builtin.«zip.__new__» ⟨[.type "zip", .ref l1, .ref l2], []⟩) (fun _ R s => s.heap.IsList l1 xs ∧ s.heap.IsTuple l2 ys ∧
    R (.ok (.ret (.ref (G4 "list_iterator" "tuple_iterator" s.heap l1 l2).objs.size))) { s with heap := G5 "list_iterator" "tuple_iterator" s.heap l1 l2 }) :=
  .of_wp fun P w A R s h => by
    obtain ⟨hp, g, d, tk, os⟩ := s
    obtain ⟨a1, a2, h⟩ := h
    have hs := sub_zip
    have b1 : Heap.IsList (Shared.heap ⟨hp, g, d, tk, os⟩) l1 xs := a1
    have b2 : Heap.IsTuple (Shared.heap ⟨hp.push (itO "list_iterator" l1), g, d, tk, os⟩) l2 ys := Heap.IsTuple.push a2 _
    wp_walk using wpAny_pyIter_list b1, wpAny_pyIter_tuple b2
    exact ⟨_, rfl, h⟩
theorem new_tl (l1 l2 : Addr) (xs ys : Array Value) : Meets (Builtin.«zip.__new__» ⟨[.type "zip", .ref l1, .ref l2], []⟩) (fun _ R s => s.heap.IsTuple l1 xs ∧ s.heap.IsList l2 ys ∧
    R (.ok (.ret (.ref (G4 "tuple_iterator" "list_iterator" s.heap l1 l2).objs.size))) { s with heap := G5 "tuple_iterator" "list_iterator" s.heap l1 l2 }) :=
  .of_wp fun P w A R s h => by
    obtain ⟨hp, g, d, tk, os⟩ := s
    obtain ⟨a1, a2, h⟩ := h
    have hs := sub_zip
    have b1 : Heap.IsTuple (Shared.heap ⟨hp, g, d, tk, os⟩) l1 xs := a1
    have b2 : Heap.IsList (Shared.heap ⟨hp.push (itO "tuple_iterator" l1), g, d, tk, os⟩) l2 ys := Heap.IsList.push a2 _
    wp_walk using wpAny_pyIter_tuple b1, wpAny_pyIter_list b2
    exact ⟨_, rfl, h⟩
/-- what stands behind the making -/
theorem made (t1 t2 : String) (h : Heap) (l1 l2 : Addr) : (G4 t1 t2 h l1 l2).objs.size = h.objs.size + 4 ∧ IsZip (G5 t1 t2 h l1 l2) (h.objs.size + 4) (h.objs.size + 2) (h.objs.size + 3) .none ∧ IsPair (G5 t1 t2 h l1 l2) (h.objs.size + 2) (.ref h.objs.size) (.ref (h.objs.size + 1)) ∧
    IsPair (G5 t1 t2 h l1 l2) (h.objs.size + 3) .none .none ∧ (G5 t1 t2 h l1 l2).get? h.objs.size = some (itO t1 l1) ∧ (G5 t1 t2 h l1 l2).get? (h.objs.size + 1) = some (itO t2 l2) ∧ ∀ c o, h.get? c = some o → (G5 t1 t2 h l1 l2).get? c = some o := by
  have e1 : (h.push (itO t1 l1)).objs.size = h.objs.size + 1 := Heap.size_push ..
  have e2 : (G2 t1 t2 h l1 l2).objs.size = h.objs.size + 2 := by rw [Heap.size_push, e1]
  have e3 : (G3 t1 t2 h l1 l2).objs.size = h.objs.size + 3 := by rw [Heap.size_push, e2]
  have e4 : (G4 t1 t2 h l1 l2).objs.size = h.objs.size + 4 := by rw [Heap.size_push, e3]
  have b5 : (G5 t1 t2 h l1 l2).get? (G4 t1 t2 h l1 l2).objs.size = some _ := Heap.get?_push_size _ rfl
  have b4 : (G5 t1 t2 h l1 l2).get? (G3 t1 t2 h l1 l2).objs.size = some _ := Heap.get?_push_of_some _ (Heap.get?_push_size _ rfl)
  have b3 : (G5 t1 t2 h l1 l2).get? (G2 t1 t2 h l1 l2).objs.size = some _ := Heap.get?_push_of_some _ (Heap.get?_push_of_some _ (Heap.get?_push_size _ rfl))
  have b2 : (G5 t1 t2 h l1 l2).get? (h.push (itO t1 l1)).objs.size = some _ := Heap.get?_push_of_some _ (Heap.get?_push_of_some _ (Heap.get?_push_of_some _ (Heap.get?_push_size _ rfl)))
  have b1 : (G5 t1 t2 h l1 l2).get? h.objs.size = some _ := Heap.get?_push_of_some _ (Heap.get?_push_of_some _ (Heap.get?_push_of_some _ (Heap.get?_push_of_some _ (Heap.get?_push_size _ rfl))))
  rw [e2, e3, e4] at b5
  rw [e1, e2] at b3
  rw [e3] at b4
  rw [e1] at b2
  exact ⟨e4, b5, b3, b4, b1, b2, fun c o q => Heap.get?_push_of_some _ (Heap.get?_push_of_some _ (Heap.get?_push_of_some _ (Heap.get?_push_of_some _ (Heap.get?_push_of_some _ q))))⟩
end JZ
namespace JZ
open PySem PySem.Spec PyProof.Rows L2
/-- what is read of a sequence at each turn -/
structure Acc (X : Cx) (p : Hp → List V → Prop) (S : Heap → Array Value → Prop) : Prop where
  get : ∀ {pins : List (Addr × Obj)} {s : Shared} {σ : L2.St} {H : Hp} {xs : List V}, Inv X pins σ H s → p H xs → ∃ its : List Value, Vals xs its ∧ S s.heap its.toArray
  inj : ∀ {pins : List (Addr × Obj)} {s : Shared} {σ : L2.St} {H : Hp} {xs ys : List V}, Inv X pins σ H s → p H xs → p H ys → xs = ys
theorem acc_list {X : Cx} (a : Addr) : Acc X (fun H xs => SqL X.K H a xs) (fun g xs => g.IsList a xs) where
  get := fun I q => by
    obtain ⟨its, rv, h, _⟩ := I.list q
    exact ⟨its, rv, h.isList⟩
  inj := fun I q r => I.list_inj q r
theorem acc_tup {X : Cx} (a : Addr) : Acc X (fun H xs => SqT X.K H a xs) (fun g xs => g.IsTuple a xs) where
  get := fun I q => by
    obtain ⟨its, rv, h, _⟩ := I.tuple q
    exact ⟨its, rv, h⟩
  inj := fun I q r => I.tuple_inj q r
def ItM (p1 p2 : Hp → List V → Prop) : It :=
  ⟨fun i H => ∃ (xs ys : List V) (x y : V), p1 H xs ∧ p2 H ys ∧ xs[i]? = some x ∧ ys[i]? = some y,
    fun i H v H' => ∃ T x y, v = .ref T ∧ H T = none ∧ H' = upd H T (.tup [x, y]) ∧ (∀ xs, p1 H xs → xs[i]? = some x) ∧ ∀ ys, p2 H ys → ys[i]? = some y,
    fun i H => ∃ xs ys : List V, p1 H xs ∧ p2 H ys ∧ (xs.length ≤ i ∨ ys.length ≤ i)⟩
theorem turnM {P : Program} {w : World} {K : PySem.W.Frag} {elts : List Expr} {kk : Nat} {tpos : Pos} {l1 l2 z ti tp i1 i2 : Addr} {T1 T2 : Heap → Nat → Prop} {S1 S2 : Heap → Array Value → Prop} {p1 p2 : Hp → List V → Prop} (D : ZipApart z ti tp i1 i2 l1 l2) (n1 : Nx P w T1 S1 i1 l1) (n2 : Nx P w T2 S2 i2 l2)
    (a1 : ∀ X : Cx, X.K = K → Acc X p1 S1) (a2 : ∀ X : Cx, X.K = K → Acc X p2 S2) :
    Turn P w K (.Tuple elts kk tpos) (ItM p1 p2) [z, ti, tp, i1, i2] z (fun i h => IsZip h z ti tp .none ∧ IsPair h ti (.ref i1) (.ref i2) ∧ (∃ x y, IsPair h tp x y) ∧ T1 h i ∧ T2 h i) where
  mem := by simp
  obj := fun i h st c hc => by
    obtain ⟨hz, hi, ⟨x, y, ht⟩, t1, t2⟩ := st
    have e' : c = z ∨ c = ti ∨ c = tp ∨ c = i1 ∨ c = i2 := by simpa using hc
    rcases e' with q | q | q | q | q
    · subst q; exact ⟨_, hz, fun v q => nomatch q⟩
    · subst q; exact ⟨_, hi, fun v q => nomatch q⟩
    · subst q; exact ⟨_, ht, fun v q => nomatch q⟩
    · subst q; exact n1.obj t1
    · subst q; exact n2.obj t2
  keep := fun i h h' st k => by
    obtain ⟨hz, hi, ⟨x, y, ht⟩, t1, t2⟩ := st
    exact ⟨k z (by simp) _ hz, k ti (by simp) _ hi, ⟨x, y, k tp (by simp) _ ht⟩, n1.keepT t1 fun o q => k i1 (by simp) o q, n2.keepT t2 fun o q => k i2 (by simp) o q⟩
  item := by
    intro X hP hw hK hc i pins s σ H E I hf st hg
    have A1 := a1 X hK
    have A2 := a2 X hK
    subst hP hw
    obtain ⟨hz, hi, ⟨x0, y0, ht⟩, t1, t2⟩ := st
    obtain ⟨xs, ys, x, y, hqx, hqy, hx, hy⟩ := hg
    obtain ⟨its, rv, s1⟩ := A1.get I hqx
    obtain ⟨its2, rv2, s2⟩ := A2.get I hqy
    obtain ⟨u, hu, ru⟩ := rv.get hx
    obtain ⟨u2, hu2, ru2⟩ := rv2.get hy
    have lz : z < s.heap.objs.size := Heap.lt_size hz
    refine py_item n1 n2 D hz hi ht t1 t2 s1 s2 (x := u) (y := u2) (by simpa using hu) (by simpa using hu2) fun g z' tp' t1' t2' hT hsz up => ?_
    refine ⟨_, rfl, wpAny_letOwnedTupleGo_zip (s := { s with heap := g }) z' fun g2 z2 sb => ?_⟩
    have hT2 : g2.get? s.heap.objs.size = some { cls := .type "tuple", data := .seq #[u, u2] } := (sb.2 _ (Nat.ne_of_gt lz)).trans hT
    have new : ObjOk X.prog X.w (upd H s.heap.objs.size (.tup [x, y])) g2 s.heap.objs.size (.tup [x, y]) := ⟨by show 2 ≤ sizeLine; decide, [u, u2], .cons ru (.cons ru2 .nil), ⟨_, hT2, rfl, _, rfl⟩⟩
    have I1 : Inv X pins σ (upd H s.heap.objs.size (.tup [x, y])) { s with heap := g2 } :=
      I.turnedNew (t' := s.toks) (ch := [z, ti, tp, i1, i2]) (fun c o nb q => (sb.2 c (fun r => nb (by simp [r]))).trans (up c o (fun r => nb (by simp [r])) (fun r => nb (by simp [r])) (fun r => nb (by simp [r])) (fun r => nb (by simp [r])) q)) hf (Nat.le_refl _) new
    refine ⟨.ref s.heap.objs.size, _, I1, rfl, ⟨_, x, y, rfl, I.hok.fresh (Nat.le_refl _), rfl, fun l hl => by rw [A1.inj I hl hqx]; exact hx, fun l hl => by rw [A2.inj I hl hqy]; exact hy⟩, ⟨z2, ?_, ⟨u, u2, ?_⟩, ?_, ?_⟩, fun c hcm => ?_⟩
    · exact (sb.2 _ D.TIz).trans (up _ _ D.TIz D.TITO D.TIi1 D.TIi2 hi)
    · exact (sb.2 _ D.TOz).trans tp'
    · exact n1.keepT t1' fun o q => (sb.2 _ D.i1z).trans q
    · exact n2.keepT t2' fun o q => (sb.2 _ D.i2z).trans q
    · have lt : c < s.heap.objs.size := by
        have e' : c = z ∨ c = ti ∨ c = tp ∨ c = i1 ∨ c = i2 := by simpa using hcm
        rcases e' with q | q | q | q | q
        · rw [q]; exact lz
        · rw [q]; exact Heap.lt_size hi
        · rw [q]; exact Heap.lt_size ht
        · rw [q]; obtain ⟨_, e1, _⟩ := n1.obj t1; exact Heap.lt_size e1
        · rw [q]; obtain ⟨_, e2, _⟩ := n2.obj t2; exact Heap.lt_size e2
      rw [upd_ne (Nat.ne_of_lt lt)]
      exact (hf c hcm).1
  done := by
    intro X hP hw hK hc i pins s σ H E I hf st hg
    have A1 := a1 X hK
    have A2 := a2 X hK
    subst hP hw
    obtain ⟨hz, hi, ⟨x0, y0, ht⟩, t1, t2⟩ := st
    obtain ⟨xs, ys, hqx, hqy, hend⟩ := hg
    obtain ⟨its, rv, s1⟩ := A1.get I hqx
    obtain ⟨its2, rv2, s2⟩ := A2.get I hqy
    have e1 := rv.length
    have e2 := rv2.length
    have he : its.toArray[i]? = none ∨ its2.toArray[i]? = none := by
      rcases hend with q | q
      · exact .inl (by simp; omega)
      · exact .inr (by simp; omega)
    exact py_end n1 n2 (I.ok.hd hc) D hz hi ht t1 t2 s1 s2 he fun g up => ⟨rfl, I.turnedL (t' := s.toks) (ch := [z, ti, tp, i1, i2]) (fun c o nb q => up c o (fun r => nb (by simp [r])) (fun r => nb (by simp [r])) (fun r => nb (by simp [r])) (fun r => nb (by simp [r])) q) hf⟩
  self := fun A i s Q E st h => wpAny_pyIter_zip st.1 h
def iZipM (K : PySem.W.Frag) (ta : TA) : TI := fun σ H R => ta σ H fun vs H1 => ∃ a b xs ys, vs = [.ref a, .ref b] ∧ ((SqL K H1 a xs ∧ SqT K H1 b ys ∧ R (ItM (fun H xs => SqL K H a xs) (fun H xs => SqT K H b xs)) H1) ∨ (SqT K H1 a xs ∧ SqL K H1 b ys ∧ R (ItM (fun H xs => SqT K H a xs) (fun H xs => SqL K H b xs)) H1))
theorem pi_zipM {X : Cx} {e e2 : Expr} {ta : TA} {p pos tpos : Pos} {elts : List Expr} {kk : Nat} (hg : Gl X "zip") (hm : X.mg "zip" = none) (ha : PA X [e, e2] ta)
    (hs : starEach [e, e2] X.env = (false, eval e X.env) :: starEach [e2] X.env := by rfl) (hpl : (backTo pos (starEach [e2] X.env)).any (·.1) = false := by rfl) :
    PI X (.Tuple elts kk tpos) (.Call (.Name "zip" p) [e, e2] [] pos) (iZipM X.K ta) := by
  refine ⟨fun pins s σ H R I h => ?_⟩
  refine Call_ (ld_blt I hg hm PyProof.Rows.boot_zip (PyProof.Rows.callWith_type1 (thn (ha.run pos pins s σ H _ I h) fun us s1 ⟨vs, H1, I1, r1, q1⟩ => ?_) hs hpl))
  obtain ⟨a, b, xs, ys, ex, q1⟩ := q1
  subst ex
  obtain ⟨u, u', rfl, ru, ru'⟩ := vals2 r1
  cases ru
  cases ru'
  have n := s1.heap.objs.size
  have fresh : ∀ c, c ∈ [s1.heap.objs.size + 4, s1.heap.objs.size + 2, s1.heap.objs.size + 3, s1.heap.objs.size, s1.heap.objs.size + 1] → FpOk X pins H1 c := fun c hcm => by
    have hle : s1.heap.objs.size ≤ c := by
      have e' : c = s1.heap.objs.size + 4 ∨ c = s1.heap.objs.size + 2 ∨ c = s1.heap.objs.size + 3 ∨ c = s1.heap.objs.size ∨ c = s1.heap.objs.size + 1 := by simpa using hcm
      omega
    exact I1.fpOk hle (I1.hok.fresh hle)
  rcases q1 with ⟨hqx, hqy, q⟩ | ⟨hqx, hqy, q⟩
  · obtain ⟨its, rv, o1, _⟩ := I1.list hqx
    obtain ⟨its2, rv2, o2, _⟩ := I1.tuple hqy
    obtain ⟨ob, hob, _⟩ := id o2
    refine callType_new F.called_zip (by decide) (F.typeCall_zip_2 _ _) (F.newCall_zip_2 _ _) (fun obj => F.args_object_init_3 obj _ _) F.entry_zip_new (new_lt a b its.toArray its2.toArray) ⟨o1.isList, o2, ?_⟩
    obtain ⟨e4, b5, b3, b4, b1, b2, up⟩ := made "list_iterator" "tuple_iterator" s1.heap a b
    show _ ∧ _
    rw [e4]
    refine ⟨⟨_, b5, rfl⟩, wpAny_pyIter_zip b5 ?_⟩
    have I2 : Inv X pins σ H1 { s1 with heap := G5 "list_iterator" "tuple_iterator" s1.heap a b } := I1.kept (t' := s1.toks) up
    exact ⟨s1.heap.objs.size + 4, [s1.heap.objs.size + 4, s1.heap.objs.size + 2, s1.heap.objs.size + 3, s1.heap.objs.size, s1.heap.objs.size + 1], _, _, H1, rfl, I2,
      turnM (PySem.W.ktu_apart s1.heap.objs.size a b o1.lt (Heap.lt_size hob)) (nx_list _ _) (nx_tup _ _) (fun X' e => e ▸ acc_list a) (fun X' e => e ▸ acc_tup b), ⟨b5, b3, ⟨_, _, b4⟩, ⟨_, b1, rfl, rfl⟩, ⟨_, b2, rfl, rfl⟩⟩, fresh, q⟩
  · obtain ⟨its, rv, o1, _⟩ := I1.tuple hqx
    obtain ⟨its2, rv2, o2, _⟩ := I1.list hqy
    obtain ⟨ob, hob, _⟩ := id o1
    refine callType_new F.called_zip (by decide) (F.typeCall_zip_2 _ _) (F.newCall_zip_2 _ _) (fun obj => F.args_object_init_3 obj _ _) F.entry_zip_new (new_tl a b its.toArray its2.toArray) ⟨o1, o2.isList, ?_⟩
    obtain ⟨e4, b5, b3, b4, b1, b2, up⟩ := made "tuple_iterator" "list_iterator" s1.heap a b
    show _ ∧ _
    rw [e4]
    refine ⟨⟨_, b5, rfl⟩, wpAny_pyIter_zip b5 ?_⟩
    have I2 : Inv X pins σ H1 { s1 with heap := G5 "tuple_iterator" "list_iterator" s1.heap a b } := I1.kept (t' := s1.toks) up
    exact ⟨s1.heap.objs.size + 4, [s1.heap.objs.size + 4, s1.heap.objs.size + 2, s1.heap.objs.size + 3, s1.heap.objs.size, s1.heap.objs.size + 1], _, _, H1, rfl, I2,
      turnM (PySem.W.ktu_apart s1.heap.objs.size a b (Heap.lt_size hob) o2.lt) (nx_tup _ _) (nx_list _ _) (fun X' e => e ▸ acc_tup a) (fun X' e => e ▸ acc_list b), ⟨b5, b3, ⟨_, _, b4⟩, ⟨_, b1, rfl, rfl⟩, ⟨_, b2, rfl, rfl⟩⟩, fresh, q⟩
end JZ
/-! J19: comprehensions over zip; a tuple, a list times an int. -/
namespace JL
open PySem PySem.Spec PyProof.Rows L2 JZ
def zipD : List PyData → List PyData → List PyData
  | x :: xs, y :: ys => .tuple [x, y] :: zipD xs ys
  | _, _ => []
theorem zipD_get : ∀ (xs ys : List PyData) (i : Nat) (r : PyData), (zipD xs ys)[i]? = some r → ∃ x y, xs[i]? = some x ∧ ys[i]? = some y ∧ r = .tuple [x, y]
  | [], ys, i, r, h => by simp [zipD] at h
  | x :: xs, [], i, r, h => by simp [zipD] at h
  | x :: xs, y :: ys, 0, r, h => by
    rw [zipD, List.getElem?_cons_zero] at h
    cases h
    exact ⟨x, y, rfl, rfl, rfl⟩
  | x :: xs, y :: ys, i + 1, r, h => by
    rw [zipD, List.getElem?_cons_succ] at h
    exact zipD_get xs ys i r h
theorem zipD_len : ∀ xs ys : List PyData, (zipD xs ys).length = min xs.length ys.length
  | [], ys => by simp [zipD]
  | x :: xs, [] => by simp [zipD]
  | x :: xs, y :: ys => by rw [zipD, List.length_cons, zipD_len, List.length_cons, List.length_cons]; omega
section
variable {X : Cx} {N : Ent} {W : WX} {e a b c o : Expr} {es : List Expr} {ma mb mc : M RV} {mt mu : M Bool} {mr : M (List RV)} {pos : Pos} {s : Stmt} {ss : List Stmt} {m1 m2 : M Flw}
/-- two sequences read side by side: what the heap says of each -/
structure Two (p : Hp → List V → Prop) (ds : List PyData) (Src : List Addr → Hp → Prop) : Prop where
  mono : ∀ L H L' H', Same (mask H L) (mask H' L') → Src L H → Src L' H'
  at' : ∀ L H, Src L H → ∃ vs, p H vs ∧ Ats (mask H L) vs ds
theorem two_list {K : PySem.W.Frag} (q : Addr) (ds : List PyData) : Two (fun H xs => SqL K H q xs) ds (SrcL q ds) := ⟨SrcL.mono, fun L H ⟨vs, h1, h2⟩ => ⟨vs, SqL.of (mask_same _ _ h1), h2⟩⟩
theorem two_tup {K : PySem.W.Frag} (q : Addr) (ds : List PyData) : Two (fun H xs => SqT K H q xs) ds (SrcT q ds) := ⟨SrcT.mono, fun L H ⟨vs, h1, h2⟩ => ⟨vs, SqT.of (mask_same _ _ h1), h2⟩⟩
theorem yields_zip {p1 p2 : Hp → List V → Prop} {d1 d2 : List PyData} {S1 S2 : List Addr → Hp → Prop} (t1 : Two p1 d1 S1) (t2 : Two p2 d2 S2) : Yields N (ItM p1 p2) (zipD d1 d2) (fun L H => S1 L H ∧ S2 L H) where
  mono := fun L H L' H' s ⟨h1, h2⟩ => ⟨t1.mono L H L' H' s h1, t2.mono L H L' H' s h2⟩
  go := fun i L H hi ⟨h1, h2⟩ => by
    obtain ⟨vs, q1, r1⟩ := t1.at' L H h1
    obtain ⟨ws, q2, r2⟩ := t2.at' L H h2
    rw [zipD_len] at hi
    have l1 := r1.length
    have l2 := r2.length
    exact ⟨vs, ws, vs[i]'(by omega), ws[i]'(by omega), q1, q2, List.getElem?_eq_getElem _, List.getElem?_eq_getElem _⟩
  stop := fun L H ⟨h1, h2⟩ => by
    obtain ⟨vs, q1, r1⟩ := t1.at' L H h1
    obtain ⟨ws, q2, r2⟩ := t2.at' L H h2
    have l1 := r1.length
    have l2 := r2.length
    have l3 := zipD_len d1 d2
    exact ⟨vs, ws, q1, q2, by omega⟩
  yld := fun i d L H hd live ⟨h1, h2⟩ x H' ⟨T, v, w, ex, nT, eH, y1, y2⟩ => by
    subst ex
    subst eH
    obtain ⟨vs, q1, r1⟩ := t1.at' L H h1
    obtain ⟨ws, q2, r2⟩ := t2.at' L H h2
    obtain ⟨g1, g2, e1, e2, rfl⟩ := zipD_get d1 d2 i d hd
    obtain ⟨u1, f1, f2⟩ := r1.get e1
    obtain ⟨u2, f3, f4⟩ := r2.get e2
    have k1 := y1 vs q1
    have k2 := y2 ws q2
    rw [f1] at k1
    rw [f3] at k2
    have ev : u1 = v := Option.some.inj k1
    have ew : u2 = w := Option.some.inj k2
    subst ev
    subst ew
    have sm := same_new (o := .tup [u1, u2]) nT
    exact ⟨sm, .tup (mask_of upd_same fun z => live T z nT) (.cons (f2.mono (mask_grow sm)) (.cons (f4.mono (mask_grow sm)) .nil))⟩
@[simp] def zipped : List RV → Option (List PyData)
  | [.dat (.list xs), .dat (.tuple ys)] => some (zipD xs ys)
  | [.dat (.tuple xs), .dat (.list ys)] => some (zipD xs ys)
  | _ => none
@[simp] def mLcZ (vs is : List Nat) (mr : M (List RV)) (tt : M Bool) (el : M RV) (st0 : ST) : R RV := (mr.bind fun rs => fun st => match escAll rs st with
  | some (q, st') => (match zipped q with
    | some ds => compAll vs (putT is) tt el ds st'
    | none => .stuck)
  | none => .stuck) st0
theorem VRels.two {L : List Addr} {as : List (List Addr)} {σ : L2.St} {H : Hp} {vs : List V} {q r : RV} (h : VRels L as σ H vs [q, r]) : ∃ v w, vs = [v, w] ∧ VRel L as σ H v q ∧ VRel L as σ H w r := by
  cases h with
  | cons h t => cases t with
    | cons h2 t => cases t; exact ⟨_, _, rfl, h, h2⟩
theorem sem_lcZ {vs is : List Nat} {n : Nat} (hn : is.length = n) (hi : ∀ i ∈ is, i ∈ vs) {tt : M Bool} {el : M RV} {K K' : PySem.W.Frag} {σ : L2.St} {H : Hp} {Q : VK} (h : semE N W (mLcZ vs is mr tt el) σ H Q) : tLc (iZipM K (semA N W mr)) (gTup K' n (gAll is)) (semT N W0 tt) (semE N W0 el) vs σ H Q := by
  obtain ⟨L, as1, st, rel, h⟩ := h
  refine sem_mono (fin_bind (P1 := VRels) rel h) fun ws H1 ⟨L3, as3, s3, rs, r3, v3, x3, f3⟩ => ?_
  cases e1 : escAll rs s3 with
  | none => rw [e1] at f3; exact f3.elim
  | some pq =>
    obtain ⟨q, s4⟩ := pq
    rw [e1] at f3
    obtain ⟨L4, r4, x4, v4, n4⟩ := Rel.escAll r3 v3 e1
    dsimp only at f3
    cases e2 : zipped q with
    | none => rw [e2] at f3; exact f3.elim
    | some ds =>
      rw [e2] at f3
      unfold zipped at e2
      split at e2
      · cases e2
        obtain ⟨v, w, rfl, hv, hw⟩ := VRels.two v4
        obtain ⟨p1, rfl, src1⟩ := at_list hv
        obtain ⟨p2, rfl, src2⟩ := at_tup hw
        obtain ⟨us, h1, _⟩ := id src1
        obtain ⟨us2, h2, _⟩ := id src2
        exact ⟨p1, p2, us, us2, rfl, .inl ⟨SqL.of (mask_same _ _ h1), SqT.of (mask_same _ _ h2), comp_yields (W := W) (yields_zip (two_list p1 _) (two_tup p2 _)) (put_tupOk hn hi) r4 ⟨src1, src2⟩ (Fin.from f3 x4)⟩⟩
      · cases e2
        obtain ⟨v, w, rfl, hv, hw⟩ := VRels.two v4
        obtain ⟨p1, rfl, src1⟩ := at_tup hv
        obtain ⟨p2, rfl, src2⟩ := at_list hw
        obtain ⟨us, h1, _⟩ := id src1
        obtain ⟨us2, h2, _⟩ := id src2
        exact ⟨p1, p2, us, us2, rfl, .inr ⟨SqT.of (mask_same _ _ h1), SqL.of (mask_same _ _ h2), comp_yields (W := W) (yields_zip (two_tup p1 _) (two_list p2 _)) (put_tupOk hn hi) r4 ⟨src1, src2⟩ (Fin.from f3 x4)⟩⟩
      · cases e2
variable {elt : Expr} {ifs : List Expr} {scope : Scope} {own : List (Str × Nat)} {tt : M Bool} {el : M RV}
theorem je_lcZ {tgs : List Expr} {kk n : Nat} {is : List Nat} {pt p pe : Pos} (hN : X.N.Nodup) (hm : X.mg "zip" = none) (ha : JA X N W [a, b] mr) (ok : BlkOk X.N X.env.scope scope own)
    (hgs : ∀ (s : Shared) (H : Hp) (C : Addr) (cl : List (Str × Addr)) (fp : List Addr), PGs (X.blk s H scope (compEnvC scope cl C X.env) fp) tgs (gAll is))
    (hst2 : ∀ (s : Shared) (H : Hp) (C : Addr) (cl : List (Str × Addr)) (fp : List Addr), (X.blk s H scope (compEnvC scope cl C X.env) fp).calm = true ∧ (assignEach tgs (X.blk s H scope (compEnvC scope cl C X.env) fp).env).length = n ∧ (assignEach tgs (X.blk s H scope (compEnvC scope cl C X.env) fp).env).findIdx? (·.1) = none)
    (ht : ∀ (s : Shared) (H : Hp) (C : Addr) (cl : List (Str × Addr)) (fp : List Addr), JTs (X.blk s H scope (compEnvC scope cl C X.env) fp) N ifs tt) (he : ∀ (s : Shared) (H : Hp) (C : Addr) (cl : List (Str × Addr)) (fp : List Addr), JE (X.blk s H scope (compEnvC scope cl C X.env) fp) N W0 elt el)
    (hn : is.length = n := by rfl) (hi : ∀ i ∈ is, i ∈ own.map (·.2) := by decide) (hc : X.calm = true := by rfl) (hgl : Gl X "zip" := by rfl) (hs : starEach [a, b] X.env = (false, eval a X.env) :: starEach [b] X.env := by rfl) (hpl : (backTo pe (starEach [b] X.env)).any (·.1) = false := by rfl)
    (hfs : ∀ z, foldedSetIterable (.Call (.Name "zip" p) [a, b] [] pe) X.env z = pure z := by intro _; rfl) : JE X N W (.ListComp elt [⟨.Tuple tgs kk pt, .Call (.Name "zip" p) [a, b] [] pe, ifs, 0⟩] scope pos) (mLcZ (own.map (·.2)) is mr tt el) :=
  PE.weak (pe_lc (g := gTup X.K n (gAll is)) hc hN (pi_zipM hgl hm ha hs hpl) ok (fun s H C cl fp => pg_tup (hst2 s H C cl fp).1 (hgs s H C cl fp) (hst2 s H C cl fp).2.1 (hst2 s H C cl fp).2.2) ht he hfs) fun σ H Q h => sem_lcZ hn hi h
/-! ### {k: v for k, v in zip(..)} -/
@[simp] def mDcZ (i j pk pv : Nat) (mr : M (List RV)) (st0 : ST) : R RV := (mr.bind fun rs => fun st => match escAll rs st with
  | some (q, st') => (match zipped q with
    | some ds => (match dictOf pk pv ds [] with
      | some kvs => if i < st'.sl.length ∧ j < st'.sl.length ∧ i ≠ j ∧ ds.length < maxLen then .ok (.hdl st'.gs.length) { st' with gs := st'.gs ++ [.dk kvs] } else .stuck
      | none => .stuck)
    | none => .stuck)
  | none => .stuck) st0
/-- the turns over two sequences that stay -/
theorem dc_zip {p1 p2 : Hp → List V → Prop} {d1 d2 : List PyData} {v1 v2 : List V} {i j pk pv : Nat} {vs : List Nat} {L : List Addr} {H1 : Hp} {σ : L2.St} {Q : VK} {kvs : List (Key × PyData)} {D : Addr} {K : PySem.W.Frag} (hi : i < σ.length) (hj : j < σ.length) (hij : i ≠ j) (hpk : pk = 0 ∨ pk = 1) (hpv : pv = 0 ∨ pv = 1) (hiv : i ∈ vs) (hjv : j ∈ vs) (hlen : (zipD d1 d2).length < maxLen) (nD : H1 D = none)
    (c1 : ∀ Hc, Same H1 Hc → p1 Hc v1) (c2 : ∀ Hc, Same H1 Hc → p2 Hc v2) (r1 : Ats (mask H1 L) v1 d1) (r2 : Ats (mask H1 L) v2 d2)
    (hd : dictOf pk pv (zipD d1 d2) [] = some kvs) (fin : ∀ Hc ws, Same H1 Hc → Hc D = some (.dK ws) → KAll (mask H1 L) ws kvs → Q (.ref D) Hc) :
    ∃ Wv : Nat → Nat → Hp → Prop, (∃ m, Wv 0 m (upd H1 D (.dK []))) ∧ ∀ k m H, Wv k m H → ((ItM p1 p2).stop k H ∧ Q (.ref D) H) ∨ ((ItM p1 p2).go k H ∧ ∃ Nx : Hp → Prop, (∀ H', Nx H' → ∃ m', m' < m ∧ Wv (k + 1) m' H') ∧
      ∀ x H', (ItM p1 p2).yld k H x H' → gTup K 2 (gAll [i, j]) x (L2.wipe σ vs) H' fun σ2 H2 => L2.wipe σ2 vs = L2.wipe σ vs ∧ tYes σ2 H2 fun b H3 =>
        if b = true then tVar (if pk = 0 then i else j) σ2 H3 fun y H4 => tVar (if pv = 0 then i else j) σ2 H4 fun z H5 => ∃ kvs k, y = kV k ∧ H5 D = some (.dK kvs) ∧ kvs.length < sizeLine ∧ Nx (upd H5 D (.dK (putK kvs k z))) else Nx H3) := by
  have l1 := r1.length
  have l2 := r2.length
  have l3 := zipD_len d1 d2
  refine dc_pairs (L := L) (kvs := kvs) (its := zipD d1 d2) hi hj hij hpk hpv hiv hjv hlen nD (fun k Hc hk sm => ⟨v1, v2, v1[k]'(by omega), v2[k]'(by omega), c1 Hc sm, c2 Hc sm, List.getElem?_eq_getElem _, List.getElem?_eq_getElem _⟩)
    (fun Hc sm => ⟨v1, v2, c1 Hc sm, c2 Hc sm, by omega⟩) (fun k row Hc hr sm x H' ⟨T, y, z, ex, nT, eH, y1, y2⟩ => ?_) hd fin
  obtain ⟨g1, g2, e1, e2, rfl⟩ := zipD_get d1 d2 k row hr
  obtain ⟨u1, f1, f2⟩ := r1.get e1
  obtain ⟨u2, f3, f4⟩ := r2.get e2
  have k1 := y1 v1 (c1 Hc sm)
  have k2 := y2 v2 (c2 Hc sm)
  rw [f1] at k1
  rw [f3] at k2
  have ev : u1 = y := Option.some.inj k1
  have ew : u2 = z := Option.some.inj k2
  subst ev
  subst ew
  exact ⟨T, u1, u2, g1, g2, ex, nT, eH, rfl, f2, f4⟩
theorem je_dcZ {tgs : List Expr} {kk i j pk pv : Nat} {kx vx : Expr} {pt p pe : Pos} (hN : X.N.Nodup) (hm : X.mg "zip" = none) (ha : JA X N W [a, b] mr) (ok : BlkOk X.N X.env.scope scope own)
    (hgs : ∀ (s : Shared) (H : Hp) (C : Addr) (cl : List (Str × Addr)) (fp : List Addr), PGs (X.blk s H scope (compEnvC scope cl C X.env) fp) tgs (gAll [i, j]))
    (hk : ∀ (s : Shared) (H : Hp) (C : Addr) (cl : List (Str × Addr)) (fp : List Addr), PE (X.blk s H scope (compEnvC scope cl C X.env) fp) kx (tVar (if pk = 0 then i else j)))
    (hv : ∀ (s : Shared) (H : Hp) (C : Addr) (cl : List (Str × Addr)) (fp : List Addr), PE (X.blk s H scope (compEnvC scope cl C X.env) fp) vx (tVar (if pv = 0 then i else j)))
    (hst2 : ∀ (s : Shared) (H : Hp) (C : Addr) (cl : List (Str × Addr)) (fp : List Addr), (X.blk s H scope (compEnvC scope cl C X.env) fp).calm = true ∧ (assignEach tgs (X.blk s H scope (compEnvC scope cl C X.env) fp).env).length = 2 ∧ (assignEach tgs (X.blk s H scope (compEnvC scope cl C X.env) fp).env).findIdx? (·.1) = none)
    (hpk : pk = 0 ∨ pk = 1 := by decide) (hpv : pv = 0 ∨ pv = 1 := by decide)
    (hiv : i ∈ own.map (·.2) := by decide) (hjv : j ∈ own.map (·.2) := by decide) (hc : X.calm = true := by rfl) (hgl : Gl X "zip" := by rfl) (hs : starEach [a, b] X.env = (false, eval a X.env) :: starEach [b] X.env := by rfl) (hpl : (backTo pe (starEach [b] X.env)).any (·.1) = false := by rfl)
    (hfs : ∀ z, foldedSetIterable (.Call (.Name "zip" p) [a, b] [] pe) X.env z = pure z := by intro _; rfl) :
    JE X N W (.DictComp kx vx [⟨.Tuple tgs kk pt, .Call (.Name "zip" p) [a, b] [] pe, [], 0⟩] scope pos) (mDcZ i j pk pv mr) := by
  refine PE.weak (pe_dc (g := gTup X.K 2 (gAll [i, j])) hc hN (pi_zipM hgl hm ha hs hpl) ok (fun s H C cl fp => pg_tup (hst2 s H C cl fp).1 (hgs s H C cl fp) (hst2 s H C cl fp).2.1 (hst2 s H C cl fp).2.2) (fun _ _ _ _ _ => pts_nil) hk hv hfs) fun σ H Q ⟨L, as1, st, rel, h⟩ => ?_
  refine sem_mono (fin_bind (P1 := VRels) rel h) fun vs H1 ⟨L3, as3, s3, rs, r3, v3, x3, f3⟩ => ?_
  cases e1 : escAll rs s3 with
  | none => rw [e1] at f3; exact f3.elim
  | some pq =>
    obtain ⟨q, s4⟩ := pq
    rw [e1] at f3
    obtain ⟨L4, r4, x4, v4, n4⟩ := Rel.escAll r3 v3 e1
    dsimp only at f3
    cases e2 : zipped q with
    | none => rw [e2] at f3; exact f3.elim
    | some ds =>
      rw [e2] at f3
      dsimp only at f3
      have f4 := Fin.from f3 x4
      split at f4
      · rename_i kvs hd
        split at f4
        · rename_i hl
          obtain ⟨l1, l2, l3, l4⟩ := hl
          have fin : ∀ D, H1 D = none → ∀ Hc ws, Same H1 Hc → Hc D = some (.dK ws) → KAll (mask H1 L4) ws kvs → Q (.ref D) Hc := fun D nD Hc zs sm hD hall => by
            obtain ⟨r5, x5⟩ := r4.newD nD sm hD hall
            refine f4 _ _ (.ref D) Hc r5 ⟨D, [], ?_, rfl⟩ x5
            have gl : s4.gs.length = as3.length := r4.g.glen.symm
            rw [gl, List.getElem?_append_right (Nat.le_refl _), Nat.sub_self]
            rfl
          have li : i < σ.length := by rw [← r4.len]; exact l1
          have lj : j < σ.length := by rw [← r4.len]; exact l2
          unfold zipped at e2
          split at e2
          · cases e2
            obtain ⟨v, w, rfl, hv, hw⟩ := VRels.two v4
            obtain ⟨p1, rfl, src1⟩ := at_list hv
            obtain ⟨p2, rfl, src2⟩ := at_tup hw
            obtain ⟨us, h1, a1⟩ := id src1
            obtain ⟨us2, h2, a2⟩ := id src2
            have w1 : H1 p1 = some (.lst us) := mask_same _ _ h1
            have w2 : H1 p2 = some (.tup us2) := mask_same _ _ h2
            exact ⟨p1, p2, us, us2, rfl, .inl ⟨SqL.of w1, SqT.of w2, fun D nD => dc_zip li lj l3 hpk hpv hiv hjv l4 nD (fun Hc sm => SqL.of (sm _ _ w1)) (fun Hc sm => SqT.of (sm _ _ w2)) a1 a2 hd (fin D nD)⟩⟩
          · cases e2
            obtain ⟨v, w, rfl, hv, hw⟩ := VRels.two v4
            obtain ⟨p1, rfl, src1⟩ := at_tup hv
            obtain ⟨p2, rfl, src2⟩ := at_list hw
            obtain ⟨us, h1, a1⟩ := id src1
            obtain ⟨us2, h2, a2⟩ := id src2
            have w1 : H1 p1 = some (.tup us) := mask_same _ _ h1
            have w2 : H1 p2 = some (.lst us2) := mask_same _ _ h2
            exact ⟨p1, p2, us, us2, rfl, .inr ⟨SqT.of w1, SqL.of w2, fun D nD => dc_zip li lj l3 hpk hpv hiv hjv l4 nD (fun Hc sm => SqT.of (sm _ _ w1)) (fun Hc sm => SqL.of (sm _ _ w2)) a1 a2 hd (fin D nD)⟩⟩
          · cases e2
        · exact f4.elim
      · exact f4.elim
end
end JL
/-! J20: a tuple times an int. -/
namespace JL
open PySem PySem.Spec PyProof.Rows L2
theorem tup_mul1 (l : Addr) (items : Array Value) (n : Nat) (dd : Option Addr) (sl : Array (Option Value)) (u : Tok) :
    Meets (Builtin.«tuple.__mul__» ⟨[.ref l, .int 1 u], []⟩) (fun _ R s => s.heap.get? l = some { cls := .type "tuple", dict := dd, data := .seq items n, slots := sl } ∧ R (.ok (.ret (Value.ref l))) s) :=
  .of_wp fun P w A R s h => by
    obtain ⟨hp, g, d, tk, os⟩ := s
    obtain ⟨hl, h⟩ := h
    have f1 := AutoSeq1.idx_int
    wp_walk using wpAny_loadPart' hl
    exact ⟨_, rfl, h⟩
theorem tup_mul0 (l : Addr) (v0 : Value) (n : Nat) (dd : Option Addr) (sl : Array (Option Value)) (u : Tok) :
    Meets (Builtin.«tuple.__mul__» ⟨[.ref l, .int 0 u], []⟩) (fun _ R s => s.heap.get? l = some { cls := .type "tuple", dict := dd, data := .seq #[v0] n, slots := sl } ∧
      R (.ok (.ret (Value.ref s.heap.objs.size))) { s with heap := s.heap.push { cls := Value.type "tuple", data := Data.seq #[] } }) :=
  .of_wp fun P w A R s h => by
    obtain ⟨hp, g, d, tk, os⟩ := s
    obtain ⟨hl, h⟩ := h
    have f1 := AutoSeq1.idx_int
    wp_walk using wpAny_loadPart' hl
    exact ⟨_, rfl, h⟩
/-- (x,) * k, k of 0 to 1000 -/
def rRep1 (K : PySem.W.Frag) : R2 := fun x y H Q => ∃ l k v, x = .ref l ∧ y = .int k ∧ SqT K H l [v] ∧ 0 ≤ k ∧ k ≤ 1000 ∧ (k = 1 → Q (.ref l) H) ∧ ∀ p, H p = none → Q (.ref p) (upd H p (.tup (List.replicate k.toNat v)))
theorem flat_one {α : Type} (v : α) : ∀ n : Nat, (List.replicate n [v]).flatten = List.replicate n v
  | 0 => rfl
  | n + 1 => by rw [List.replicate_succ, List.flatten_cons, flat_one v n, List.replicate_succ]; rfl
section
variable {X : Cx} {N : Ent} {W : WX}
theorem op_rep1 : OpR X (binaryOp .Mult) (rRep1 X.K) := by
  intro pins s σ H x y v u Q I rx ry h
  obtain ⟨l, k, v1, rfl, rfl, hT, h0, h1, q1, q⟩ := h
  by_cases h2 : 2 ≤ k
  · refine op_repT pins s σ H _ _ v u Q I rx ry ⟨l, k, [v1], rfl, rfl, hT, by simp, h2, h1, by simp, fun p np => ?_⟩
    rw [flat_one]
    exact q p np
  · cases rx
    obtain ⟨t, rfl⟩ := ry
    obtain ⟨its, r, ⟨⟨cls, dd, data, sl⟩, ho, hc, n, hd⟩, hs⟩ := I.tuple hT
    simp only at hc hd
    subst hc hd
    obtain ⟨w1, rfl, rw1⟩ := vals1 r
    have hk : k = 0 ∨ k = 1 := by omega
    rcases hk with rfl | rfl
    · refine wpAny_binaryOp_repeat_ref (T := "tuple") (U := "int") (by decide) ⟨_, ho, rfl⟩ (fun s' => typeIs_int s' 0 t) noFill_tuple_mul F.fills_int_mul F.slot_int_rmul repeat_tuple F.slot_int_index.lookup
        (call_meets F.slot_int_rmul (typeIs_int s 0 t) F.entry_int_rmul (F.args_int_rmul_2 _ _) (int_rmul_tuple 0 t l _ n dd sl)
          ⟨ho, rfl, ⟨_, ho, rfl⟩, call_meets F.slot_tuple_mul ⟨_, ho, rfl⟩ F.entry_tuple_mul (F.args_tuple_mul_2 _ _) (tup_mul0 l w1 n dd sl t) ⟨ho, ?_⟩⟩)
      refine ⟨.ref s.heap.objs.size, _, I.laid (t' := s.toks) (o := .tup []) (fun b ob q => Heap.get?_push_of_some _ q) (Nat.le_refl _) ?_, rfl, q _ (I.hok.fresh (Nat.le_refl _))⟩
      exact ⟨Nat.zero_le _, [], .nil, IsTup.new _ _⟩
    · refine wpAny_binaryOp_repeat_ref (T := "tuple") (U := "int") (by decide) ⟨_, ho, rfl⟩ (fun s' => typeIs_int s' 1 t) noFill_tuple_mul F.fills_int_mul F.slot_int_rmul repeat_tuple F.slot_int_index.lookup
        (call_meets F.slot_int_rmul (typeIs_int s 1 t) F.entry_int_rmul (F.args_int_rmul_2 _ _) (int_rmul_tuple 1 t l _ n dd sl)
          ⟨ho, rfl, ⟨_, ho, rfl⟩, call_meets F.slot_tuple_mul ⟨_, ho, rfl⟩ F.entry_tuple_mul (F.args_tuple_mul_2 _ _) (tup_mul1 l _ n dd sl t) ⟨ho, ?_⟩⟩)
      exact ⟨.ref l, H, I, rfl, q1 rfl⟩
@[simp] def rep1D : PyData → PyData → Option PyData
  | .tuple [d], .int k => if 0 ≤ k ∧ k ≤ 1000 then some (.tuple (List.replicate k.toNat d)) else none
  | _, _ => none
theorem ats_rep {F : Hp} {v : V} {d : PyData} (h : At F v d) : ∀ n : Nat, Ats F (List.replicate n v) (List.replicate n d)
  | 0 => .nil
  | n + 1 => .cons h (ats_rep h n)
theorem pure_rep1 {K : PySem.W.Frag} : Pure2 (rRep1 K) rep1D := by
  intro x y H L Q d e g live hx hy he k
  unfold rep1D at he
  split at he
  · rename_i d0 k0
    split at he
    · rename_i hc
      cases he
      obtain ⟨a, vs, rfl, ha, hs⟩ := hx.tuple
      cases hs with
      | cons h1 t1 =>
        cases t1
        refine ⟨a, k0, _, rfl, hy.int, SqT.of ha, hc.1, hc.2, fun e1 => ?_, fun p np => k _ _ (same_new np) (at_newT live np (ats_rep h1 _))⟩
        subst e1
        cases hx with
        | «at» hx => exact k _ _ (Same.refl _) hx
    · cases he
  · cases he
end
end JL
/-! J21: dicts that are filled: keys ints and texts, or tuples of these. -/
namespace JL
open PySem PySem.Spec PyProof.Rows L2
@[simp] def keysOf : List PyData → Option (List Key)
  | [] => some []
  | d :: r => (keyOf d).bind fun k => (keysOf r).bind fun ks => some (k :: ks)
@[simp] def tkeyOf : PyData → Option (List Key)
  | .tuple ds => keysOf ds
  | _ => none
theorem keysOf_at {F : Hp} : ∀ {vs : List V} {ds : List PyData} {ks : List Key}, Ats F vs ds → keysOf ds = some ks → vs = ks.map kV
  | _, _, ks, .nil, e => by
    simp only [keysOf] at e
    cases e
    rfl
  | _, _, ks, .cons (d := d) (ds := ds) h r, e => by
    simp only [keysOf] at e
    cases e1 : keyOf d with
    | none => rw [e1] at e; cases e
    | some k =>
      rw [e1] at e
      cases e2 : keysOf ds with
      | none => rw [e2] at e; cases e
      | some ks' =>
        rw [e2] at e
        cases e
        rw [keyOf_at h e1, keysOf_at r e2]
        rfl
theorem Rdb.tkey {H : Hp} {L : List Addr} {v : V} {d : PyData} {k : List Key} (h : Rdb H L v d) (e : tkeyOf d = some k) : ∃ b, v = .ref b ∧ H b = some (.tup (k.map kV)) := by
  cases d with
  | tuple ds =>
    obtain ⟨b, vs, rfl, hb, hs⟩ := h.tuple
    exact ⟨b, rfl, by rw [← keysOf_at hs e]; exact hb⟩
  | none => cases e
  | bool _ => cases e
  | int _ => cases e
  | str _ => cases e
  | list _ => cases e
  | dict _ => cases e
section
variable {X : Cx} {N : Ent} {W : WX} {e a b c o i value : Expr} {es : List Expr} {ma mb mc mv : M RV} {mt mu : M Bool} {mr : M (List RV)} {pos pos' : Pos} {s : Stmt} {ss : List Stmt} {m1 m2 : M Flw}
/-- {} -/
@[simp] def mDnew (go : GO) (st : ST) : R RV := .ok (.hdl st.gs.length) { st with gs := st.gs ++ [go] }
theorem fin_dnew {L : List Addr} {as1 : List (List Addr)} {st : ST} {σ : L2.St} {H : Hp} {Q : VK} {go : GO} {ho : HO} (rel : Rel N L as1 st σ H) (h : Fin N W VRel L as1 σ H (mDnew go st) Q) {p : Addr} (np : H p = none) (ok : GOk N.cls (mask (upd H p ho) (p :: L)) (upd H p ho) [p] go) (hno : ∀ vs, ho ≠ .tup vs := by exact fun _ z => nomatch z) : Q (.ref p) (upd H p ho) := by
  refine h (p :: L) (as1 ++ [[p]]) (.ref p) _ (rel.pushG np ok hno) ⟨p, [], ?_, rfl⟩ ⟨same_guard np, .app⟩
  have gl : st.gs.length = as1.length := rel.g.glen.symm
  rw [gl, List.getElem?_append_right (Nat.le_refl _), Nat.sub_self]
  rfl
theorem je_dnewK : JE X N W (.Dict [] [] pos) (mDnew (.dk [])) := PE.weak pe_dnewK fun σ H Q ⟨L, as1, st, rel, h⟩ p np => fin_dnew rel h np ⟨p, [], rfl, upd_same, .nil⟩
theorem je_dnewT : JE X N W (.Dict [] [] pos) (mDnew (.dt [])) := PE.weak pe_dnewT fun σ H Q ⟨L, as1, st, rel, h⟩ p np => fin_dnew rel h np ⟨p, [], rfl, upd_same, .nil⟩
/-- d[k], k a tuple -/
@[simp] def mDgetT (md mk : M RV) (st0 : ST) : R RV := (md.bind fun a => mk.bind fun b => fun st => match a with
  | .hdl j => (match st.gs[j]?, (st.look b).bind tkeyOf with
    | some (.dt kvs), some k => outO (valD kvs k) st
    | _, _ => .stuck)
  | _ => .stuck) st0
theorem je_dgetT (ho : JE X N W o ma) (hi : JE X N W b mb) (hu : X.A.units + 65 < cLine) (hs : NoSl b := by exact fun _ _ => rfl) : JE X N W (.Subscript o b pos) (mDgetT ma mb) := by
  refine PE.weak (pe_dget (by omega) ho hi hs) fun σ H Q ⟨L, as1, st, rel, h⟩ => ?_
  refine sem_mono (fin_bind (P1 := VRel) rel h) fun v H1 ⟨L3, as3, s3, rv3, r3, v3, x3, f3⟩ => ?_
  refine sem_mono (fin_bind (P1 := VRel) r3 f3) fun w H2 ⟨L6, as6, s6, rv6, r6, v6, x6, f6⟩ => ?_
  have v3' := v3.ext x6
  cases rv3 with
  | dat d => exact f6.elim
  | bor i => exact f6.elim
  | hdl j =>
    obtain ⟨p, fp, hp, rfl⟩ := v3'
    dsimp only at f6
    split at f6
    · rename_i kvs k e1 e2
      obtain ⟨q, ws, ef, hq, hall⟩ := r6.g.gok j _ _ e1 hp
      cases ef
      cases e3 : s6.look rv6 with
      | none => rw [e3] at e2; cases e2
      | some d =>
        rw [e3] at e2
        simp only [Option.bind_some] at e2
        cases e4 : valD kvs k with
        | none => rw [e4] at f6; exact f6.elim
        | some g =>
          rw [e4] at f6
          obtain ⟨y, y1, y2⟩ := hall.val e4
          obtain ⟨bb, rfl, hb⟩ := (r6.look v6 e3).tkey e2
          refine ⟨p, y, rfl, ?_, fin_dat r6 f6 (Same.refl _) y2⟩
          rw [← y1]
          exact DGet.t hq hb
    · exact f6.elim
/-- k in d, k not in d -/
@[simp] def mDin (neg : Bool) (mk md : M RV) (st0 : ST) : R RV := (mk.bind fun b => md.bind fun a => fun st => match a with
  | .hdl j => (match st.gs[j]? with
    | some (.dt kvs) => (match (st.look b).bind tkeyOf with
      | some k => .ok (.dat (.bool (xor neg (valD kvs k).isSome))) st
      | none => .stuck)
    | some (.dk kvs) => (match (st.look b).bind keyOf with
      | some k => .ok (.dat (.bool (xor neg (valD kvs k).isSome))) st
      | none => .stuck)
    | _ => .stuck)
  | _ => .stuck) st0
theorem sem_din {neg : Bool} {σ : L2.St} {H : Hp} {Q : VK} (h : semE N W (mDin neg mb ma) σ H Q) : semE N W mb σ H fun y H1 => semE N W ma σ H1 fun x H2 => ∃ a o, x = .ref a ∧ DGet H2 a y o ∧ Q (.bl (xor neg o.isSome)) H2 := by
  obtain ⟨L, as1, st, rel, h⟩ := h
  refine sem_mono (fin_bind (P1 := VRel) rel h) fun v H1 ⟨L3, as3, s3, rv3, r3, v3, x3, f3⟩ => ?_
  refine sem_mono (fin_bind (P1 := VRel) r3 f3) fun w H2 ⟨L6, as6, s6, rv6, r6, v6, x6, f6⟩ => ?_
  have v3' := v3.ext x6
  cases rv6 with
  | dat d => exact f6.elim
  | bor i => exact f6.elim
  | hdl j =>
    obtain ⟨p, fp, hp, rfl⟩ := v6
    dsimp only at f6
    split at f6
    · rename_i kvs e1
      obtain ⟨q, ws, ef, hq, hall⟩ := r6.g.gok j _ _ e1 hp
      cases ef
      split at f6
      · rename_i k e2
        cases e3 : s6.look rv3 with
        | none => rw [e3] at e2; cases e2
        | some d =>
          rw [e3] at e2
          simp only [Option.bind_some] at e2
          obtain ⟨bb, rfl, hb⟩ := (r6.look v3' e3).tkey e2
          refine ⟨p, _, rfl, DGet.t hq hb, ?_⟩
          rw [hall.valN]
          exact fin_dat r6 f6 (Same.refl _) (.bl _)
      · exact f6.elim
    · rename_i kvs e1
      obtain ⟨q, ws, ef, hq, hall⟩ := r6.g.gok j _ _ e1 hp
      cases ef
      split at f6
      · rename_i k e2
        cases e3 : s6.look rv3 with
        | none => rw [e3] at e2; cases e2
        | some d =>
          rw [e3] at e2
          simp only [Option.bind_some] at e2
          have ev := (r6.look v3' e3).key e2
          subst ev
          refine ⟨p, _, rfl, DGet.k hq, ?_⟩
          rw [hall.valN]
          exact fin_dat r6 f6 (Same.refl _) (.bl _)
      · exact f6.elim
    · exact f6.elim
theorem jc_din (hi : JE X N W i mb) (ho : JE X N W o ma) (hu : X.A.units + 65 < cLine) (hm : behindInMarks .In o = false := by first | exact nobehind _ (by decide) (by decide) | rfl) : JE X N W (.Compare i [.In] [o] pos) (mDin false mb ma) := by
  refine PE.weak (pe_cmp (pc_din (by omega) hi ho) hm) fun σ H Q h => ?_
  refine sem_mono (sem_din h) fun v H1 h1 => sem_mono h1 fun w H2 ⟨p, ov, e1, e2, e3⟩ => ⟨p, ov, e1, e2, ?_⟩
  simpa using e3
theorem jc_dnotin (hi : JE X N W i mb) (ho : JE X N W o ma) (hu : X.A.units + 65 < cLine) (hm : behindInMarks .NotIn o = false := by first | exact nobehind _ (by decide) (by decide) | rfl) : JE X N W (.Compare i [.NotIn] [o] pos) (mDin true mb ma) := by
  refine PE.weak (pe_cmp (pc_dnotin (by omega) hi ho) hm) fun σ H Q h => ?_
  refine sem_mono (sem_din h) fun v H1 h1 => sem_mono h1 fun w H2 ⟨p, ov, e1, e2, e3⟩ => ⟨p, ov, e1, e2, ?_⟩
  simpa using e3
theorem jt_din (hi : JE X N W i mb) (ho : JE X N W o ma) (hu : X.A.units + 65 < cLine) (hm : behindInMarks .In o = false := by first | exact nobehind _ (by decide) (by decide) | rfl) : JT X N W (.Compare i [.In] [o] pos) (mTest (mDin false mb ma)) := by
  refine PT.weak (pt_cmp (pc_din (by omega) hi ho) hm) fun σ H Q h => ?_
  refine sem_mono (sem_din (sem_test h)) fun v H1 h1 => sem_mono h1 fun w H2 ⟨p, ov, e1, e2, e3⟩ => ⟨p, ov, e1, e2, ?_⟩
  simpa using e3
theorem jt_dnotin (hi : JE X N W i mb) (ho : JE X N W o ma) (hu : X.A.units + 65 < cLine) (hm : behindInMarks .NotIn o = false := by first | exact nobehind _ (by decide) (by decide) | rfl) : JT X N W (.Compare i [.NotIn] [o] pos) (mTest (mDin true mb ma)) := by
  refine PT.weak (pt_cmp (pc_dnotin (by omega) hi ho) hm) fun σ H Q h => ?_
  refine sem_mono (sem_din (sem_test h)) fun v H1 h1 => sem_mono h1 fun w H2 ⟨p, ov, e1, e2, e3⟩ => ⟨p, ov, e1, e2, ?_⟩
  simpa using e3
/-- d[k] = v -/
@[simp] def mDput (md mk mv : M RV) (st0 : ST) : R Flw := (mv.bind fun v => md.bind fun a => mk.bind fun b => fun st => match a, st.esc v with
  | .hdl j, some (.dat d, st') => (match st'.gs[j]? with
    | some (.dt kvs) => (match (st'.look b).bind tkeyOf with
      | some k => if kvs.length < maxLen then .ok .nx { st' with gs := st'.gs.set j (.dt (putKD kvs k d)) } else .stuck
      | none => .stuck)
    | some (.dk kvs) => (match (st'.look b).bind keyOf with
      | some k => if kvs.length < maxLen then .ok .nx { st' with gs := st'.gs.set j (.dk (putKD kvs k d)) } else .stuck
      | none => .stuck)
    | _ => .stuck)
  | _, _ => .stuck) st0
theorem js_dput (ho : JE X N W o ma) (hi : JE X N W i mb) (hv : JE X N W value mv) (hu : X.A.units + 65 < cLine) (hs : swapsWith value (some (.Subscript o i pos')) pos.line X.env = pure false := by rfl) :
    JS X N W (.Assign [.Subscript o i pos'] value pos) (mDput ma mb mv) := by
  refine PS.weak (ps_dput (by omega) ho hi hv hs) fun D σ H ⟨L, as1, st, rel, h⟩ => ?_
  refine sem_mono (finS_bindX (P1 := VRel) rel h) fun v H1 ⟨L1, as2, s1, rv1, r1, v1, x1, f1⟩ => ?_
  refine sem_mono (finS_bindX (P1 := VRel) r1 f1) fun x H2 ⟨L3, as3, s3, rv3, r3, v3, x3, f3⟩ => ?_
  refine sem_mono (finS_bindX (P1 := VRel) r3 f3) fun w H3 ⟨L6, as6, s6, rv6, r6, v6, x6, f6⟩ => ?_
  have v1' := (v1.ext x3).ext x6
  have v3' := v3.ext x6
  cases rv3 with
  | dat d => exact f6.elim
  | bor i => exact f6.elim
  | hdl j =>
    cases e1 : s6.esc rv1 with
    | none => rw [e1] at f6; exact f6.elim
    | some pq =>
      obtain ⟨q, s7⟩ := pq
      rw [e1] at f6
      obtain ⟨L7, r7, x7, v7, n7⟩ := r6.esc v1' e1
      cases q with
      | bor j => exact absurd rfl (n7 j)
      | hdl j => exact f6.elim
      | dat d =>
        dsimp only at f6
        have f7 := FinS.from f6 x7
        obtain ⟨p, fp, hp, rfl⟩ := v3'.ext x7
        have v6' := v6.ext x7
        have hd : At (mask H3 L7) v d := v7
        split at f7
        · rename_i kvs e2
          obtain ⟨q, ws, ef, hq, hall⟩ := r7.g.gok j _ _ e2 hp
          cases ef
          split at f7
          · rename_i k e3
            split at f7
            · rename_i hl
              cases e4 : s7.look rv6 with
              | none => rw [e4] at e3; cases e3
              | some dk =>
                rw [e4] at e3
                simp only [Option.bind_some] at e3
                obtain ⟨bb, rfl, hb⟩ := (r7.look v6' e4).tkey e3
                have hlw : ws.length < sizeLine := by
                  have h1 := hall.len
                  have hm : maxLen ≤ sizeLine := by decide
                  omega
                obtain ⟨r8, x8⟩ := r7.mutG (o := .dT (putK ws k v)) (go := .dt (putKD kvs k d)) hp ⟨p, putK ws k v, rfl, upd_same, hall.put hd⟩
                exact ⟨p, _, rfl, DPut.t hq hb hlw, f7 L7 as6 σ _ r8 x8⟩
            · exact f7.elim
          · exact f7.elim
        · rename_i kvs e2
          obtain ⟨q, ws, ef, hq, hall⟩ := r7.g.gok j _ _ e2 hp
          cases ef
          split at f7
          · rename_i k e3
            split at f7
            · rename_i hl
              cases e4 : s7.look rv6 with
              | none => rw [e4] at e3; cases e3
              | some dk =>
                rw [e4] at e3
                simp only [Option.bind_some] at e3
                have ev := (r7.look v6' e4).key e3
                subst ev
                have hlw : ws.length < sizeLine := by
                  have h1 := hall.len
                  have hm : maxLen ≤ sizeLine := by decide
                  omega
                obtain ⟨r8, x8⟩ := r7.mutG (o := .dK (putK ws k v)) (go := .dk (putKD kvs k d)) hp ⟨p, putK ws k v, rfl, upd_same, hall.put hd⟩
                exact ⟨p, _, rfl, DPut.k hq hlw, f7 L7 as6 σ _ r8 x8⟩
            · exact f7.elim
          · exact f7.elim
        · exact f7.elim
end
end JL
/-! J22: a comprehension within a comprehension. -/
namespace JL
open PySem PySem.Spec PyProof.Rows L2
/-- the block's names as they are seen from within -/
def seen (sc sc0 : Scope) : Scope := { sc with names := sc.names.map fun (n, k) => if (k == .free && sc0.kind == .function && sc0.names.lookup n == some .cell) then (n, .cell) else (n, k) }
theorem blkOk_in {X : Cx} {s : Shared} {H : Hp} {C : Addr} {cl : List (Str × Addr)} {fp : List Addr} {sc sc0 scope : Scope} {own : List (Str × Nat)} {N : List Str} (hN : X.N = N) (hs : X.env.scope = sc0) (h : blkC N (seen sc sc0) scope own = true) : BlkOk (X.blk s H sc (compEnvC sc cl C X.env) fp).N (X.blk s H sc (compEnvC sc cl C X.env) fp).env.scope scope own := by
  have := blkOk_by h
  rw [← hN, ← hs] at this
  exact this
end JL
/-! J23: min, sum, index of a tuple of ints; len of a dict comprehension over a tuple. -/
namespace JL
open PySem PySem.Spec PyProof.Rows L2
def rMinT (K : PySem.W.Frag) : List V → Hp → VK → Prop := fun vs H Q => ∃ (a : Addr) (n : Int) (ns : List Int), vs = [V.ref a] ∧ SqT K H a ((n :: ns).map V.int) ∧ Q (.int (ns.foldl min n)) H
def rSumT (K : PySem.W.Frag) : List V → Hp → VK → Prop := fun vs H Q => ∃ (a : Addr) (ns : List Int), vs = [V.ref a] ∧ SqT K H a (ns.map V.int) ∧ Q (.int ns.sum) H
theorem foldl_min_le : ∀ (ns : List Int) (n : Int), ns.foldl min n ≤ n ∧ ∀ x ∈ ns, ns.foldl min n ≤ x
  | [], n => ⟨Int.le_refl _, fun x hx => absurd hx (by simp)⟩
  | y :: r, n => by
    obtain ⟨h1, h2⟩ := foldl_min_le r (min n y)
    rw [List.foldl_cons]
    refine ⟨by omega, fun x hx => ?_⟩
    rcases List.mem_cons.mp hx with rfl | hx
    · omega
    · exact h2 x hx
theorem foldl_min_mem : ∀ (ns : List Int) (n : Int), ns.foldl min n ∈ n :: ns
  | [], n => by simp
  | y :: r, n => by
    have h := foldl_min_mem r (min n y)
    rw [List.foldl_cons]
    rcases List.mem_cons.mp h with h | h
    · rw [h]
      by_cases q : n ≤ y
      · rw [Int.min_eq_left q]; simp
      · rw [Int.min_eq_right (by omega)]; simp
    · exact List.mem_cons_of_mem _ (List.mem_cons_of_mem _ h)
section
variable {X : Cx} {N : Ent} {W : WX} {e a : Expr} {ma : M RV} {mr : M (List RV)} {pos : Pos}
theorem cr_minT (hc : X.calm = true) (hu : X.A.units + 65 < cLine) : CallR X (.builtin "min") (rMinT X.K) := by
  intro pins s σ H vs us Q I r h
  obtain ⟨q, n, ns, rfl, hs, k⟩ := h
  obtain ⟨its, rv, hl, _⟩ := I.tuple hs
  rw [Vals.ref1 r]
  have hi : IntsAre its (n :: ns) := rv.ints
  have hr := hi.reads s.heap
  rw [List.map_cons] at hr
  have hd : PyData.depthAll (.int n :: ns.map .int) ≤ 1 := depth_ints (n :: ns)
  have hal : PySem.W.AlikeAll (.int n :: ns.map .int) := by
    refine ⟨fun x hx y hy => ?_, fun x hx => ?_⟩
    · obtain ⟨i, _, rfl⟩ := List.mem_map.mp (show x ∈ (n :: ns).map PyData.int from hx)
      obtain ⟨j, _, rfl⟩ := List.mem_map.mp (show y ∈ (n :: ns).map PyData.int from hy)
      rfl
    · obtain ⟨i, _, rfl⟩ := List.mem_map.mp (show x ∈ (n :: ns).map PyData.int from hx)
      exact fun z => nomatch z
  refine PySem.W.min_tuple_data (I.ok.hd hc) hl (by simpa using hr) hal (by omega) fun i v h' tk bs hv rd hk => ?_
  rw [PySem.W.minD_ints] at rd
  cases rd with
  | int _ t => exact ⟨.int _, H, I.kept hk, ⟨_, rfl⟩, k⟩
theorem cr_sumT (hc : X.calm = true) : CallR X (.builtin "sum") (rSumT X.K) := by
  intro pins s σ H vs us Q I r h
  obtain ⟨q, ns, rfl, hs, k⟩ := h
  obtain ⟨its, rv, hl, _⟩ := I.tuple hs
  rw [Vals.ref1 r]
  have hi : IntsAre its ns := rv.ints
  obtain ⟨xs, ex⟩ := hi.allInts.items
  have hn : numsOf (intItems xs).toList = ns := by rw [← ex]; exact hi.numsOf
  rw [nums_intItems] at hn
  have hl2 : s.heap.IsTuple q (intItems xs) := by rw [← ex]; exact hl
  refine PySem.W.ktm_sumG (I.ok.hd hc) hl2 fun h' tk t' hk => ⟨.int ns.sum, H, I.kept hk, ⟨t', ?_⟩, k⟩
  rw [preSum_eq, List.take_of_length_le (by simp), hn]
@[simp] def sumTD : List PyData → Option PyData
  | [.tuple xs] => (intsOf xs).bind fun ns => some (.int ns.sum)
  | _ => none
theorem pure_sumT {K : PySem.W.Frag} : PureC (rSumT K) sumTD := by
  intro xs H L Q ds g live h he k
  unfold sumTD at he
  split at he
  · rename_i zs
    cases e1 : intsOf zs with
    | none => rw [e1] at he; cases he
    | some ns =>
      rw [e1] at he
      simp only [Option.bind_some] at he
      cases he
      obtain ⟨v, rfl, hv⟩ := Paired.one h
      obtain ⟨a, vs, rfl, ha, hs⟩ := hv.tuple
      rw [intsOf_eq e1] at hs
      rw [hs.ints] at ha
      exact ⟨a, ns, rfl, SqT.of ha, k _ _ (Same.refl _) (.int _)⟩
  · cases he
@[simp] def minTD : List PyData → Option PyData
  | [.tuple xs] => (intsOf xs).bind fun ns => if ns.length = 0 then none else some (.int (minL ns))
  | _ => none
theorem pure_minT {K : PySem.W.Frag} : PureC (rMinT K) minTD := by
  intro xs H L Q ds g live h he k
  unfold minTD at he
  split at he
  · rename_i zs
    cases e1 : intsOf zs with
    | none => rw [e1] at he; cases he
    | some ns =>
      rw [e1] at he
      simp only [Option.bind_some] at he
      split at he
      · cases he
      · rename_i hl
        cases he
        obtain ⟨v, rfl, hv⟩ := Paired.one h
        obtain ⟨a, vs, rfl, ha, hs⟩ := hv.tuple
        rw [intsOf_eq e1] at hs
        rw [hs.ints] at ha
        cases ns with
        | nil => exact absurd rfl hl
        | cons x r =>
          have e : r.foldl min x = minL (x :: r) := by
            obtain ⟨h1, h2⟩ := foldl_min_le r x
            refine Int.le_antisymm ?_ (minL_le x r _ (foldl_min_mem r x))
            rcases List.mem_cons.mp (minL_mem x r) with z | z
            · rw [z]; exact h1
            · exact h2 _ z
          refine ⟨a, x, r, rfl, SqT.of ha, ?_⟩
          rw [e]
          exact k _ _ (Same.refl _) (.int _)
  · cases he
/-- len({x: True for x in t}), t a tuple of ints -/
@[simp] def mLenDCT (i : Nat) (ma : M RV) (st0 : ST) : R RV := (ma.bind fun r => fun st => match st.look r with
  | some (.tuple ds) => (match intsOf ds with
    | some ns => if i < st.sl.length ∧ ns.length ≤ maxLen then .ok (.dat (.int (nubI ns []).length)) st else .stuck
    | none => .stuck)
  | _ => .stuck) st0
theorem je_lenDCT {i : Nat} {x : Str} {px px2 p p1 p2 : Pos} {k0 : Nat} {scope : Scope} {own : List (Str × Nat)} (hN : X.N.Nodup) (hm : X.mg "len" = none) (he : JE X N W e ma) (ok : BlkOk X.N X.env.scope scope own)
    (hg : ∀ (s : Shared) (H : Hp) (C : Addr) (cl : List (Str × Addr)) (fp : List Addr), PG (X.blk s H scope (compEnvC scope cl C X.env) fp) (.Name x px) (gName i))
    (hk : ∀ (s : Shared) (H : Hp) (C : Addr) (cl : List (Str × Addr)) (fp : List Addr), PE (X.blk s H scope (compEnvC scope cl C X.env) fp) (.Name x px2) (tVar i))
    (hi : i ∈ own.map (·.2) := by decide) (hc : X.calm = true := by rfl) (hgl : Gl X "len" := by rfl) (hfs : ∀ z, foldedSetIterable e X.env z = pure z := by intro _; rfl)
    (h1 : starEach [.DictComp (.Name x px2) (.Constant (.bool true) k0 p1) [⟨.Name x px, e, [], 0⟩] scope p2] X.env = (false, eval (.DictComp (.Name x px2) (.Constant (.bool true) k0 p1) [⟨.Name x px, e, [], 0⟩] scope p2) X.env) :: starEach [] X.env := by rfl) :
    JE X N W (.Call (.Name "len" p) [.DictComp (.Name x px2) (.Constant (.bool true) k0 p1) [⟨.Name x px, e, [], 0⟩] scope p2] [] pos) (mLenDCT i ma) := by
  refine PE.weak (pe_callB call_lenD hgl hm PySem.boot_len (pa_cons (pe_dc hc hN (pi_seq he) ok hg (fun _ _ _ _ _ => pts_nil) hk (fun _ _ _ _ _ => pe_bl) hfs) pa_nil h1) (by decide) (by decide) h1) fun σ H Q ⟨L, as1, st, rel, h⟩ => ?_
  refine sem_mono (fin_bind (P1 := VRel) rel h) fun v H1 ⟨L3, as3, s3, rv, r3, v3, x3, f3⟩ => ?_
  split at f3
  · rename_i ds e1
    split at f3
    · rename_i ns e2
      split at f3
      · rename_i hl
        obtain ⟨p, ws, rfl, hp, hs⟩ := (r3.look v3 e1).tuple
        rw [intsOf_eq e2] at hs
        rw [hs.ints] at hp
        refine .inr ⟨p, rfl, ⟨_, SqT.of hp⟩, fun D nD => ?_⟩
        have npD : p ≠ D := ne_of_none hp nD
        refine ⟨fun k m Hc => m = ns.length - k ∧ k ≤ ns.length ∧ Hc = upd H1 D (.dK (kvOf (nubI (ns.take k) []))), ⟨_, rfl, Nat.zero_le _, rfl⟩, ?_⟩
        rintro k m Hc ⟨rfl, hk', rfl⟩
        have hpc : (upd H1 D (.dK (kvOf (nubI (ns.take k) [])))) p = some (.tup (ns.map V.int)) := by rw [upd_ne npD]; exact hp
        by_cases hlt : k < ns.length
        · have hget : ns[k]? = some ns[k] := List.getElem?_eq_getElem hlt
          refine .inr ⟨⟨_, .int ns[k], SqT.of hpc, by rw [List.getElem?_map, hget]; rfl⟩, fun H' => H' = upd H1 D (.dK (kvOf (nubI (ns.take (k + 1)) []))), fun H' q => ⟨_, by omega, rfl, hlt, q⟩, fun y H' hy => ?_⟩
          obtain ⟨rfl, hy⟩ := hy
          have ey : y = .int ns[k] := by
            have := hy _ (SqT.of hpc)
            rw [List.getElem?_map, hget] at this
            exact (Option.some.inj this).symm
          subst ey
          refine ⟨by rw [wipe_set hi, wipe_wipe], ?_⟩
          unfold tYes
          dsimp only
          rw [if_pos rfl]
          refine ⟨.int ns[k], List.getElem?_set_self (by rw [wipe_len, ← r3.len]; exact hl.1), ?_⟩
          refine ⟨kvOf (nubI (ns.take k) []), .inl ns[k], rfl, upd_same, ?_, ?_⟩
          · have h1 := nubI_len (ns.take k) []
            rw [List.length_take] at h1
            have h2 : (kvOf (nubI (ns.take k) [])).length = (nubI (ns.take k) []).length := List.length_map _
            have hm : maxLen < sizeLine := by decide
            have := hl.2
            simp only [List.length_nil] at h1
            omega
          · show upd (upd H1 D _) D _ = _
            rw [upd_upd, putK_kvOf, nubI_step ns [] k ns[k] hget]
        · have ek : k = ns.length := by omega
          subst ek
          rw [List.take_length]
          refine .inl ⟨⟨_, SqT.of (by rw [List.take_length] at hpc; exact hpc), by rw [List.length_map]; exact Nat.le_refl _⟩, D, _, rfl, upd_same, ?_⟩
          have h2 : (kvOf (nubI ns [])).length = (nubI ns []).length := List.length_map _
          rw [h2]
          exact fin_dat r3 f3 (same_new nD) (.int _)
      · exact f3.elim
    · exact f3.elim
  · exact f3.elim
end
end JL
/-! J24: > of lists of ints. -/
namespace JL
open PySem PySem.Spec PyProof.Rows L2
def rGtL (K : PySem.W.Frag) : R2 := fun x y H Q => ∃ ns ms : List Int, Dp K H x (.list (ns.map .int)) ∧ Dp K H y (.list (ms.map .int)) ∧ Q (.bl (decide (ms < ns))) H
theorem op_gtL {X : Cx} (hu : X.A.units + 64 < cLine) : OpR X (compareOp .Gt) (rGtL X.K) := by
  intro pins s σ H x y v u Q I rx ry h
  obtain ⟨ns, ms, hd, he, q⟩ := h
  obtain ⟨as, r1⟩ := Dp.reads I _ x v hd rx
  obtain ⟨bs, r2⟩ := Dp.reads I _ y u he ry
  have h1 := depth_ilist ns
  refine PySem.W.gt_data r1 r2 (alike_ilist ns ms) (fun z => by cases z) (by omega) ?_
  rw [lt_ilist]
  exact ⟨.bl _, H, I, rfl, q⟩
@[simp] def gtLD : PyData → PyData → Option PyData
  | .list xs, .list ys => (intsOf xs).bind fun ns => (intsOf ys).bind fun ms => some (.bool (decide (ms < ns)))
  | _, _ => none
theorem pure_gtL {K : PySem.W.Frag} : Pure2 (rGtL K) gtLD := by
  intro x y H L Q d e g live hx hy he k
  unfold gtLD at he
  split at he
  · rename_i xs ys
    cases e1 : intsOf xs with
    | none => rw [e1] at he; cases he
    | some ns =>
      cases e2 : intsOf ys with
      | none => rw [e1, e2] at he; cases he
      | some ms =>
        rw [e1, e2] at he
        cases he
        rw [intsOf_eq e1] at hx
        rw [intsOf_eq e2] at hy
        exact ⟨ns, ms, hx.dp, hy.dp, k _ _ (Same.refl _) (.bl _)⟩
  · cases he
end JL
/-! J25: exceptions: raise, try .. except X as e: y = e, isinstance of what was caught. -/
namespace JL
open PySem PySem.Spec PyProof.Rows L2
section
variable {X : Cx} {N : Ent} {W : WX} {pos : Pos}
/-- raise X('..') -/
@[simp] def mRaise (c : Nat) (st : ST) : R Flw := .exc c st
theorem js_raise {c : Nat} {C : Addr} {bmB : List Value} {B newId initId : String} {x m : Str} {j : Nat} {p p2 pos' : Pos} (F : ExcBaseFacts B newId initId bmB) (q : PySem.W.excIn X.K C bmB newId = true) (gC : X.mg x = some (.ref C)) (kC : PySem.W.keepIn X.K (.ref C) = true) (r : Raises X (.ref C))
    (hC : N.cls c = .ref C) (tk : Takes X W) (hc : X.calm = true := by rfl) (hg : Gl X x := by rfl) (hdb : (x == ("__debug__" : Str)) = false := by decide) : JS X N W (.Raise (some (.Call (.Name x p) [.Constant (.str m) j p2] [] pos')) none pos) (mRaise c) := by
  refine PS.weak (ps_raise hc tk (pmk_own F q gC kC r hg hdb)) fun D σ H ⟨L, as1, st, rel, h⟩ => ?_
  rw [← hC]
  exact h L as1 σ H rel .refl
theorem exn_ok {P : Program} {w : World} {H : Hp} {h : Heap} {a : Addr} {cl : Value} {oe : Obj} {vs : Array Value} (ha : h.get? a = some oe) (hz : Zc cl none oe) (hd : oe.data = .fields vs) : ObjOk P w H h a (exnO a cl) :=
  ⟨⟨oe, ha, hz, vs, hd⟩, ⟨oe, ha⟩, fun h1 h2 ⟨o, e1, e2, e3⟩ k => ⟨o, k o e1, e2, e3⟩⟩
theorem Inv.adopt {pins : List (Addr × Obj)} {σ : L2.St} {H : Hp} {s : Shared} (I : Inv X pins σ H s) {a : Addr} {oe : Obj} {vs : Array Value} {cl : Value} (ha : s.heap.get? a = some oe) (hz : Zc cl none oe) (hd : oe.data = .fields vs) (na : H a = none) (nL : a ≠ X.env.locals)
    (n0 : ∀ o, X.s_0.heap.get? a = some o → a ∈ X.ex) (np : ∀ p ∈ X.pn ++ pins, p.1 ≠ a) (nc : ∀ x c, X.env.cells.lookup x = some c → c ≠ a) : Inv X pins σ (upd H a (exnO a cl)) s where
  ok := I.ok
  os := I.os
  bare := I.bare
  base := {
    keep := I.base.keep
    slot := I.base.slot
    free := fun b o e n x => by
      have hb : b ≠ a := fun z => x (by rw [z]; exact n0 o (by rw [← z]; exact e))
      rw [upd_ne hb]
      exact I.base.free b o e n x
    there := I.base.there
    tups := fun b xs e => by
      have e1 := I.base.tups b xs e
      rw [upd_ne (fun z => by rw [z, na] at e1; cases e1)]
      exact e1
    frzs := fun b o u e => by
      have e1 := I.base.frzs b o u e
      rw [upd_ne (fun z => by rw [z, na] at e1; cases e1)]
      exact e1
    tbls := fun b ps e => by
      obtain ⟨more, e1⟩ := I.base.tbls b ps e
      exact ⟨more, by rw [upd_ne (fun z => by rw [z, na] at e1; cases e1)]; exact e1⟩ }
  loc := I.loc
  cell := I.cell
  free := by rw [upd_ne (Ne.symm nL)]; exact I.free
  freeC := fun x c e => by rw [upd_ne (nc x c e)]; exact I.freeC x c e
  pin := fun p hp => by
    obtain ⟨h1, h2, h3⟩ := I.pin p hp
    exact ⟨h1, by rw [upd_ne (np p hp)]; exact h2, h3⟩
  hok := fun b o e => by
    by_cases z : b = a
    · subst z
      rw [upd_same] at e
      cases e
      exact exn_ok ha hz hd
    · rw [upd_ne z] at e
      exact (I.hok b o e).stay (fun c u _ q => q) (fun c q => by rw [upd_ne (fun y => by rw [y, na] at q; cases q)]; exact q) (fun c xs q => by rw [upd_ne (fun y => by rw [y, na] at q; cases q)]; exact q)
  len := I.len
end
end JL
/-! J26: try .. except C as e: suite, where the exception stays known behind the suite. -/
namespace JL
open PySem PySem.Spec PyProof.Rows L2
section
variable {Y : Cx} {cn en : Str} {cv : Value} {i : Nat} {bd su : List Stmt} {s0 : Stmt} {p1 p2 p3 : Pos} {tb : WX → TS} {ts : Addr → TS} {Wo : WX}
/-- what the clause wishes of an exception of the body: it is tracked from the suite on -/
def wKeep (K : PySem.W.Frag) (cv : Value) (i : Nat) (ts : Addr → TS) (Wo : WX) (D : Ends) : WX := fun cl d σ H =>
  ∃ b, PySem.W.exmOne K cl cv = some b ∧ (b = true → d = none ∧ ∀ a, H a = none → ts a { nx := fun σ1 H1 => D.nx (σ1.set i none) H1, rt := D.rt, bk := fun σ1 H1 => D.bk (σ1.set i none) H1, ct := fun σ1 H1 => D.ct (σ1.set i none) H1 } (σ.set i (some (.ref a))) (upd H a (exnO a cl))) ∧ (b = false → Wo cl d σ H)
theorem ps_try_keep (h1 : Y.stack = Y.env :: Y.outer) (h2 : Y.env.frame = some Y.env.locals) (h3 : Y.N.Nodup) (h4 : Y.N[i]? = some en) (h5 : Y.env.kindOf en = some .local) (h6 : Names Y cn cv) (tk : Takes Y Wo)
    (hb : ∀ (W1 : WX) (pn : List (Addr × Obj)) (xe : Value → Shared → Prop), Takes (Y.tr pn xe) W1 → PassesOwn (model Y.prog Y.w) Y.A Y.env xe → PSs (Y.tr pn xe) bd (tb W1))
    (hs : ∀ (a : Addr) (pn : List (Addr × Obj)), PSs (Y.suite a pn) (s0 :: su) (ts a)) :
    PS Y (.Try bd [.ExceptHandler (some (.Name cn p1)) (some en) (s0 :: su) p2] [] [] p3) (fun D σ H => tb (wKeep Y.K cv i ts Wo D) D σ H) := by
  constructor
  intro pi s σ H D I h
  have ok := I.ok
  have fr : Y.A.frames = some (Y.env :: Y.outer) := by rw [ok.frames, h1]
  refine wpAny_Try_except ?_
  have run := hb (wKeep Y.K cv i ts Wo D) (Y.pn ++ pi) (fun e t => wpAny (model Y.prog Y.w) Y.A (noteFrame e Y.env) (fun _ t2 => wpAny (model Y.prog Y.w) Y.A (setFlight e none) (fun _ t3 =>
    wpAny (model Y.prog Y.w) Y.A (handleBy e Y.env [.ExceptHandler (some (.Name cn p1)) (some en) (s0 :: su) p2]) (SP Y pi D) Y.xe t3) Y.xe t2) Y.xe t) ?_ PassesOwn.looking
  · refine wpAny_mono (run.run [] s σ H D (I.toTry _) h) (fun f t ht => ?_) (fun _ _ he => he)
    cases f with
    | next => obtain ⟨σ1, H1, J, q⟩ := ht; exact wpAny_execs_nil ⟨σ1, H1, J.ofTry ok, q⟩
    | brk => obtain ⟨σ1, H1, J, q⟩ := ht; exact ⟨σ1, H1, J.ofTry ok, q⟩
    | cont => obtain ⟨σ1, H1, J, q⟩ := ht; exact ⟨σ1, H1, J.ofTry ok, q⟩
    | ret u => obtain ⟨v, σ1, H1, J, r, q⟩ := ht; exact ⟨v, σ1, H1, J.ofTry ok, r, q⟩
  intro u t xx
  obtain ⟨a, B, t0, pi1, σ1, H1, cl, d, rfl, J0, nb, up, sky, na, os, ag, b, eb, yes, no⟩ := xx
  have J : Inv Y pi σ1 H1 t0 := J0.ofTry ok
  rw [show (Y.tr (Y.pn ++ pi) _).stack = Y.env :: Y.outer from h1] at sky
  refine Sky.land Zc.steady fr h2 sky fun g3 f3 u3 => ?_
  have J3 : Inv Y pi σ1 H1 { t with heap := g3 } := J.landed nb f3.1 (up.trans u3) os ag
  obtain ⟨o3, v3, e3, z3, d3⟩ := f3.there
  have nfr : a ∉ frs (Y.env :: Y.outer) := fun hm => by
    obtain ⟨_, o', e', hn⟩ := f3.2.2.1.mem hm
    rw [e3] at e'
    cases e'
    exact hn _ d3
  have nL : a ≠ Y.env.locals := fun z => nfr (List.mem_filterMap.mpr ⟨Y.env, List.mem_cons_self, by rw [h2, z]⟩)
  have nF : a ∉ Y.fs := fun hm => by
    obtain ⟨x, hx, q⟩ := List.mem_filterMap.mp hm
    exact nfr (List.mem_filterMap.mpr ⟨x, List.mem_cons_of_mem _ hx, q⟩)
  have S3 := J3.suite e3 d3 na nL nF
  refine wpAny_handleBy_cons (codeAny_handlers_test ?_) (by intro q; cases q)
  have LT : PySem.W.Looks (model Y.prog Y.w) g3 (typeOf (.ref a)) cl := fun _ _ _ _ k q => wpAny_typeOf_ref (k _ _ e3) (by rw [z3.1]; exact q)
  have LM := PySem.W.exm_one (M := model Y.prog Y.w) J3.kIn LT eb
  have test : ∀ {Q : Value → Shared → Prop} {E : Value → Shared → Prop}, Q cv { t with heap := g3 } → wpAny (model Y.prog Y.w) (Y.A.mark (some (.ref a))) (eval (.Name cn p1) Y.env) Q E { t with heap := g3 } := fun {Q E} q => by
    obtain ⟨hg, hdb, hm | ⟨hm, hv, hn⟩⟩ := h6
    · exact ld_glob (X := Y.suite a ((a, o3) :: (Y.pn ++ pi))) S3 hg hm q hdb
    · exact ld_blt (X := Y.suite a ((a, o3) :: (Y.pn ++ pi))) S3 hg hm hv q hn hdb
  refine test (LM.here ?_)
  cases b with
  | true =>
    refine codeAny_handlers_suite_as ?_
    refine HandSPX.lands_againZ f3 fun g4 f4 u4 => ?_
    have J4 : Inv Y pi σ1 H1 { t with heap := g4 } := J.landed nb f4.1 ((up.trans u3).trans u4) os ag
    obtain ⟨o4, v4, e4, z4, d4⟩ := f4.there
    obtain ⟨dn, ya⟩ := yes rfl
    subst dn
    have gone : ∀ o, t0.heap.get? a = some o → False := fun o e => by
      have := nb a o e (by show a ∉ frs Y.stack; rw [h1]; exact nfr)
      rw [f3.2.1] at this
      cases this
    have A4 := Inv.adopt J4 e4 z4 d4 na nL (fun o e => by
      by_cases x : a ∈ Y.ex
      · exact x
      · obtain ⟨o', e'⟩ := J.base.there a o e x
        exact (gone o' e').elim) (fun p hp z => gone p.2 (by rw [← z]; exact (J.pin p hp).1)) (fun x c e z => by
        obtain ⟨v, o, q1, q2⟩ := J4.cell x c e
        rw [z] at q1
        have q1 : g4.get? a = some o := q1
        rw [e4] at q1
        cases q1
        rw [d4] at q2
        cases q2)
    have S4 : Inv (Y.suite a (Y.pn ++ pi)) [] σ1 (upd H1 a (exnO a cl)) { t with heap := g4 } := ⟨A4.ok.suite _ _, A4.os, A4.bare, A4.base, A4.loc, A4.cell, A4.free, A4.freeC, fun p hp => A4.pin p (by rw [List.append_nil] at hp; exact hp), A4.hok, A4.len⟩
    refine store_ok (X := Y.suite a (Y.pn ++ pi)) (v := .ref a) S4 h3 h4 (.inl h5) rfl (fun t5 S5 => ?_) (.inr h5)
    refine wpAny_mono ((hs a (Y.pn ++ pi)).run [] t5 _ _ _ S5 (ya a na)) (fun f t6 ht => ?_) (fun _ _ z => False.elim z)
    have fin : ∀ {σ6 : L2.St} {H6 : Hp} {Q : Shared → Prop}, Inv (Y.suite a (Y.pn ++ pi)) [] σ6 H6 t6 → (∀ t7, Inv Y pi (σ6.set i none) H6 t7 → Q t7) →
        wpAny (model Y.prog Y.w) Y.A (do bindName Y.env en .none; unbindBehindTheSuite Y.env en p2) (fun _ t7 => Q t7) Y.xe t6 := fun {σ6 H6 Q} S6 hq =>
      gone_ok (X := Y) ⟨ok, S6.os, S6.bare, S6.base, S6.loc, S6.cell, S6.free, S6.freeC, fun p hp => S6.pin p (List.mem_append_left _ hp), S6.hok, S6.len⟩ h3 h4 h5 hq
    cases f with
    | next => obtain ⟨σ6, H6, S6, q⟩ := ht; exact fin S6 fun t7 J7 => ⟨_, _, J7, q⟩
    | brk => obtain ⟨σ6, H6, S6, q⟩ := ht; exact fin S6 fun t7 J7 => ⟨_, _, J7, q⟩
    | cont => obtain ⟨σ6, H6, S6, q⟩ := ht; exact fin S6 fun t7 J7 => ⟨_, _, J7, q⟩
    | ret u => obtain ⟨v, σ6, H6, S6, r, q⟩ := ht; exact fin S6 fun t7 J7 => ⟨_, _, _, J7, r, q⟩
  | false =>
    show wpAny _ Y.A (handleBy (.ref a) Y.env []) _ _ _
    refine wpAny_handleBy_nil ?_
    obtain ⟨k1, k2, k3, oe, vs, T, oT, tl, he, hz, hd, hv, hr⟩ := id f3
    unfold PySem.passOn
    refine wpAny_bind (wpAny_field he hd hv ?_)
    rw [if_neg (show ¬ ((Value.ref T == Value.none) = true) from by simp)]
    have fin : wpAny (model Y.prog Y.w) Y.A (setFlight (.ref a) Y.env.frame) (fun _ t4 => wpAny (model Y.prog Y.w) Y.A (throw (.ref a) : Sem Flow) (SP Y pi D) Y.xe t4) Y.xe { t with heap := g3 } := by
      rw [h2]
      refine HandSPX.setFlight_upZ f3 fun g4 hh4 u4 => wpAny_throw (tk _ _ ?_)
      exact ⟨a, B, t0, pi, σ1, H1, cl, d, rfl, J, nb, (up.trans u3).trans u4, .inr (.inr (by rw [h1]; exact hh4)), na, os, ag, no rfl⟩
    first
      | exact wpAny_bind (wpAny_pure (wpAny_bind fin))
      | exact wpAny_bind fin
end
end JL
/-! J27: try .. except C as e: suite. -/
namespace JL
open PySem PySem.Spec PyProof.Rows L2
section
variable {X : Cx} {N : Ent} {W : WX} {pos : Pos}
/-- behind a suite: the name of the exception is gone -/
def offS (i : Nat) : R Flw → R Flw
  | .ok .nx st => .ok .nx { st with sl := st.sl.set i .un }
  | _ => .stuck
@[simp] def mTry (i : Nat) (okc : Nat → Bool) (mb ms : M Flw) (st : ST) : R Flw := match mb st with
  | .exc c s1 => if okc c = true ∧ i < s1.sl.length then offS i (ms ⟨s1.sl.set i (.hdl s1.gs.length), s1.gs ++ [.exn c]⟩) else .stuck
  | r => r
theorem js_try {i : Nat} {okc : Nat → Bool} {cn en : Str} {cv : Value} {bd su : List Stmt} {s0 : Stmt} {p1 p2 p3 : Pos} {mb ms : M Flw} (h1 : X.stack = X.env :: X.outer) (h2 : X.env.frame = some X.env.locals) (h3 : X.N.Nodup) (h4 : X.N[i]? = some en) (h5 : X.env.kindOf en = some .local) (h6 : Names X cn cv) (tk : Takes X W)
    (hm : ∀ c, okc c = true → PySem.W.exmOne X.K (N.cls c) cv = some true)
    (hb : ∀ (W1 : WX) (pn : List (Addr × Obj)) (xe : Value → Shared → Prop), Takes (X.tr pn xe) W1 → PassesOwn (model X.prog X.w) X.A X.env xe → JSs (X.tr pn xe) N W1 bd mb)
    (hs : ∀ (a : Addr) (pn : List (Addr × Obj)), JSs (X.suite a pn) N (fun _ _ _ _ => False) (s0 :: su) ms) :
    JS X N W (.Try bd [.ExceptHandler (some (.Name cn p1)) (some en) (s0 :: su) p2] [] [] p3) (mTry i okc mb ms) := by
  refine PS.weak (ps_try_keep (Wo := W) (tb := fun W1 => semS N W1 mb) (ts := fun _ => semS N (fun _ _ _ _ => False) ms) h1 h2 h3 h4 h5 h6 tk hb hs) fun D σ H ⟨L, as1, st, rel, h⟩ => ?_
  refine ⟨L, as1, st, rel, ?_⟩
  unfold mTry at h
  cases e : mb st with
  | stuck => rw [e] at h; exact h.elim
  | ok f s1 => rw [e] at h; cases f <;> exact h
  | exc c s1 =>
    rw [e] at h
    dsimp only at h
    by_cases q : okc c = true ∧ i < s1.sl.length
    · rw [if_pos q] at h
      intro L1 as2 σ1 H1 r1 x1
      refine ⟨true, hm c q.1, fun _ => ⟨rfl, fun a na => ?_⟩, fun z => by cases z⟩
      have r2 := r1.pushG (o := exnO a (N.cls c)) (go := .exn c) na ⟨a, rfl, upd_same⟩
      have gl : s1.gs.length = as2.length := r1.g.glen.symm
      have r3 := r2.setHdl (i := i) (j := s1.gs.length) (a := a) (fp := []) (by rw [← r1.len]; exact q.2) (by
        rw [gl, List.getElem?_append_right (Nat.le_refl _), Nat.sub_self]
        rfl)
      have x2 : Ext L1 as2 H1 (a :: L1) (as2 ++ [[a]]) (upd H1 a (exnO a (N.cls c))) := ⟨same_guard na, .app⟩
      refine ⟨_, _, _, r3, ?_⟩
      dsimp only
      cases e2 : ms ⟨s1.sl.set i (.hdl s1.gs.length), s1.gs ++ [.exn c]⟩ with
      | stuck => rw [e2] at h; exact h.elim
      | exc c2 s2 => rw [e2] at h; exact h.elim
      | ok f s2 =>
        rw [e2] at h
        cases f with
        | nx =>
          intro L3 as3 σ3 H3 r4 x4
          exact h L3 as3 _ H3 (r4.wiped [i]) (x1.trans (x2.trans x4))
        | brk => exact h.elim
        | cnt => exact h.elim
        | ret v => exact h.elim
    · rw [if_neg q] at h
      exact h.elim
end
end JL
/-! J28: isinstance of a caught exception. -/
namespace JL
open PySem PySem.Spec PyProof.Rows L2
def rIsX (K : PySem.W.Frag) : List V → Hp → VK → Prop := fun xs H Q => ∃ (a D : Addr) (c : V) (cv : Value) (b : Bool), xs = [.ref a, c] ∧ H a = some (exnO a (.ref D)) ∧ ExcC K D ∧ (∀ u, RelV c u → u = cv) ∧ PySem.W.kitOne K (.ref D) cv = some b ∧ Q (.bl b) H
theorem call_isX {X : Cx} : CallR X (.builtin "isinstance") (rIsX X.K) := by
  intro pins s σ H xs us Q I r h
  obtain ⟨a, D, c, cv, b, rfl, hx, C, hcv, e, q⟩ := h
  cases r with
  | cons rx rr =>
    cases rr with
    | cons rt rr =>
      cases rr
      cases rx
      have ec := hcv _ rt
      subst ec
      have ob : ObjOk X.prog X.w H s.heap a (exnO a (.ref D)) := I.hok a _ hx
      obtain ⟨⟨oe, hget, hz, vs, hv⟩, _, _⟩ := ob
      have J : PySem.W.InstAt s.heap a oe D none := by
        obtain ⟨oc, od, oda, osl⟩ := oe
        obtain ⟨z1, z2⟩ := hz
        dsimp only at z1 z2 hv
        subst z1 z2 hv
        exact ⟨hget, rfl, rfl, trivial⟩
      exact PySem.W.kia_one (PySem.W.handS_kitx_exc C.hg C.hk C.hs C.hd C.ha C.hn C.ht C.hm) I.kIn J e (fun z => nomatch z) fun tk => ⟨.bl b, H, I.kept (t' := tk) fun _ _ z => z, rfl, q⟩
end JL
/-! J29: xs.count(y), items data of any depth. -/
namespace JL
open PySem PySem.Spec PyProof.Rows L2
def rCountD (K : PySem.W.Frag) : V → List V → Hp → VK → Prop := fun x xs H Q => ∃ (p : Addr) (y : V) (d : PyData) (ds : List PyData), x = V.ref p ∧ xs = [y] ∧ Dp K H (V.ref p) (.list ds) ∧ Dp K H y d ∧
  SeqAt.shaped (.list ds) = true ∧ SeqAt.shaped d = true ∧ Q (.int ((ds.countP fun z => PyData.eqv z d : Nat) : Int)) H
theorem mt_countD {X : Cx} (hu : X.A.units + 65 < cLine) : MtR X "list.count" (rCountD X.K) := by
  intro pi s σ H x xs v us Q I rx rxs h
  obtain ⟨p, y, d, ds, rfl, rfl, hl, hy, s1, s2, q⟩ := h
  cases rx
  cases rxs with
  | cons ry rt =>
    rename_i uy ut
    cases rt
    obtain ⟨bs, r1⟩ := Dp.reads I d y uy hy ry
    have lay : PyData.canLayAll0 ds = true := SeqAt.canLay_of_shaped s1
    have room : X.A.units + 1 + min (PyData.depthAll ds) d.depth < cLine := room_in_shaped s2 hu
    cases hl with
    | lst hs ha =>
      obtain ⟨its, rv, ⟨⟨c, dd, data, sls⟩, n, ho, hc, hdn, hdt⟩, hlen⟩ := I.list hs
      simp only at hc hdt
      subst hc hdt
      obtain ⟨as, h4⟩ := Dp.readsAll I ds _ its ha rv
      have hmap : its.map (SeqAt.readOf s.heap) = ds := SeqAt.readsAll_map ds its as lay h4
      refine call_meets PySem.F.slot_list_count ⟨_, ho, rfl⟩ PySem.F.entry_list_count (PySem.F.args_list_count_2 _ _)
        (SeqAt.list_countAt p its.toArray n dd sls uy (fun u => PyData.eqv (SeqAt.readOf s.heap u) d)) ⟨ho, SeqAt.items_eqAt (vs := its.toArray) (show ReadsAll s.heap its.toArray.toList ds as from h4) r1 lay (SeqAt.canLay_of_shaped s2) room, ?_⟩
      have ec : its.toArray.toList.countP (fun u => PyData.eqv (SeqAt.readOf s.heap u) d) = ds.countP fun z => PyData.eqv z d := by
        rw [← hmap, List.countP_map]
        rfl
      rw [ec]
      exact ⟨.int _, H, I.tok _, ⟨_, rfl⟩, q⟩
section
variable {X : Cx} {N : Ent} {W : WX} {e a : Expr} {ma : M RV} {mr : M (List RV)}
/-- xs.count(y) -/
@[simp] def countD : List PyData → Option PyData
  | [.list ds, d] => if SeqAt.shaped (.list ds) = true ∧ SeqAt.shaped d = true then some (.int ((ds.countP fun z => PyData.eqv z d : Nat) : Int)) else none
  | _ => none
@[simp] def mCount (ma : M RV) (mr : M (List RV)) (st0 : ST) : R RV := (ma.bind fun a => fun st0 => match st0.look a with
  | some (.list _) => (mr.bind fun r => fun st => outO ((lookAll st (a :: r)).bind countD) st) st0
  | _ => .stuck) st0
theorem je_count {apos cpos : Pos} (ho : JE X N W a ma) (ha : JA X N W [e] mr) (hu : X.A.units + 65 < cLine) (hbase : attributeBase a "count" X.env (eval a X.env) = eval a X.env := by rfl)
    (hfew : ((backTo cpos (starEach [e] X.env)).all (fun x => !x.1) && (backToKw cpos (keywordEach [] X.env)).all (fun x => x.1.isSome) && decide ([e].length + ([] : List Keyword).length + (if ([] : List Keyword).isEmpty then 0 else 1) < 30)) = true := by rfl)
    (hline : (apos.endLine == cpos.line) = true := by rfl) (hs : starEach [e] X.env = (false, eval e X.env) :: starEach [] X.env := by rfl) (hpl : (backTo cpos (starEach [] X.env)).any (·.1) = false := by rfl) :
    JE X N W (.Call (.Attribute a "count" apos) [e] [] cpos) (mCount ma mr) := by
  refine PE.weak (pe_bm PySem.F.plainAttrs_list PySem.F.slot_list_count PySem.F.type_list_count (mt_countD hu) ho ha hbase hfew hline hs hpl) fun σ H Q ⟨L, as1, st, rel, h⟩ => ?_
  refine sem_mono (fin_bind (P1 := VRel) rel h) fun v H1 ⟨L3, as3, s3, rv, r3, v3, x3, f3⟩ => ?_
  split at f3
  · rename_i ds0 e0
    obtain ⟨p, ws, ep, hp, hs⟩ := (r3.look v3 e0).list
    subst ep
    refine ⟨.inl ⟨rfl, _, SqL.of hp⟩, ?_⟩
    refine sem_mono (fin_bind (P1 := VRels) r3 f3) fun vs H2 ⟨L4, as4, s4, rs, r4, v4, x4, f4⟩ => ?_
    cases e1 : lookAll s4 (rv :: rs) with
    | none => rw [e1] at f4; exact f4.elim
    | some dd =>
      rw [e1] at f4
      simp only [Option.bind_some] at f4
      have pr := r4.lookAll (.cons (v3.ext x4) v4) e1
      unfold countD at f4
      split at f4
      · rename_i ds d
        cases pr with
        | cons p1 t1 =>
          obtain ⟨y, rfl, hy⟩ := Paired.one t1
          split at f4
          · rename_i hsh
            exact ⟨p, y, d, ds, rfl, rfl, p1.dp, hy.dp, hsh.1, hsh.2, fin_dat r4 f4 (Same.refl _) (.int _)⟩
          · exact f4.elim
      · exact f4.elim
  · exact f3.elim

end
end JL
/-! J30: sorted(xs, key=lambda one: one[0]); the law's frame with a table of code objects. -/
namespace JL
open PySem PySem.Spec PyProof.Rows L2 LamX

/-! ### the lambda called -/
theorem lam_turn {prog : Program} {w : World} {A : Around} {s : Shared} {f c' t : Addr} {q x : Str} {params : Arguments} {scope : Scope} {clos : List (Str × Addr)} {pm ctv : Value} {p1 p2 p3 : Pos} {j : Nat} {items : Array Value} {i : Int} {tk : Tok}
    (hroom : A.depth < recursionLimit) (hf : s.heap.get? f = some (PySem.W.kla_obj "<lambda>" q params (.Subscript (.Name x p1) (.Constant (.int 0) j p2) p3) scope clos pm c' ctv))
    (hc : s.heap.CodeRec (.ref c') q) (hk : scope.kind = .function) (hco : scope.isCoroutine = false) (hgen : scope.isGenerator = false) (hloc : scope.names.lookup x = some .local) (hcell : ∀ y ∈ scope.names, y.2 ≠ .cell) (hlim : s.heap.NoLimit)
    (hbind : ∀ u : Value, bindArgs (PySem.W.kla_fn "<lambda>" q params (.Subscript (.Name x p1) (.Constant (.int 0) j p2) p3) scope clos pm (.ref c') ctv) ⟨[u], []⟩ = pure [(x, u)])
    (hT : IsTup s.heap t items) (hi : items[0]? = some (.int i tk)) (hd : (x == ("__debug__" : Str)) = false) :
    wpAny (model prog w) A (call (.ref f) [.ref t]) (PySem.W.KeyPure (.int i) s) (fun _ _ => False) s := by
  refine wpAny_call ?_
  refine PySem.W.kla_callFunE hroom hf rfl hco hgen rfl hc ?_
  rw [hbind]
  refine wpAny_pure (wpAny_newFunctionEnv hcell (fun y hy => ?_) (fun h₁ hns hsb => ⟨hlim.fresh _ hsb, ?_⟩) hk)
  · have : y = (x, .ref t) := by simpa using hy
    subst this
    exact hloc
  have kp : ∀ b o, s.heap.get? b = some o → h₁.get? b = some o := fun b o e => hsb.extBut b o (Nat.ne_of_lt (Heap.lt_size e)) (Heap.get?_push_of_some _ e)
  have hT1 : IsTup h₁ t items := by
    obtain ⟨o, e, r⟩ := hT
    exact ⟨o, kp _ _ e, r⟩
  refine PySem.W.kla_codeExpr ?_
  refine Subscript_ (wpAny_Name (wpAny_loadName_local hk hloc hns (v := .ref t) (by simp) ?_) hd)
  refine wpAny_Constant_int ?_
  have hsz : 0 < items.size := by
    by_cases z : 0 < items.size
    · exact z
    · rw [Array.getElem?_eq_none (by omega)] at hi
      cases hi
  refine subscriptTail_builtinR (x := .int i tk) hT1.typeIs slot_tuple_getitem.lookup (getItem_tuple (j := 0) hT1 (by decide) (by decide) ?_ hi ⟨rfl, ?_⟩) (by with_unfolding_all rfl)
  · have e := seqIndex_of (k := (0 : Int)) (n := items.size) (by decide) (by omega)
    simpa using e
  · exact ⟨_, _, rfl, kp, .int _ _⟩

/-! ### the lambda made -/
section
variable {X : Cx} {pins : List (Addr × Obj)} {σ : L2.St} {H : Hp} {s : Shared}
theorem lam_mk {p c : Addr} {q : Str} {ps : Array Value} {params : Arguments} {body : Expr} {scope : Scope} {pos : Pos} {E : Value → Shared → Prop} {Q : Value → Shared → Prop} (I : Inv X pins σ H s) (TB : TabB X.base X.mg c p)
    (hcode : X.env.code = .ref c) (hq : X.env.qual ++ "<lambda>" = q) (hP : H p = some (.tbl ps)) (ht : TriplesOk ps.toList) (ha : ∀ (p' : Pos) (cv : Value), codeAmong p' ps.toList = some cv → ∃ d, cv = .ref d ∧ H d = some (CodeO d q))
    (hdef : defaultsOf params X.env = ([], [])) (hfree : ∀ y ∈ scope.names, y.2 = .free → ∃ d, X.env.cells.lookup y.1 = some d)
    (h : ∀ (f d : Addr) (pm ctv : Value) (H1 : Hp) (s' : Shared) (qs : Array Value), Inv X pins σ H1 s' → (∀ b o, H b = some o → b ≠ p → H1 b = some o) → H1 p = some (.tbl qs) → TriplesOk qs.toList →
      (∀ (p' : Pos) (cv : Value), codeAmong p' qs.toList = some cv → codeAmong p' ps.toList = some cv ∨ (cv = .ref d ∧ H d = none)) → H1 d = some (CodeO d q) →
      s'.heap.get? f = some (PySem.W.kla_obj "<lambda>" q params body scope (cloFrom X.env.cells scope.names []) pm d ctv) → Q (.ref f) s') :
    wpAny (model X.prog X.w) X.A (eval (.Lambda params body scope pos) X.env) Q E s := by
  have bP := TB.bm.keeps I.bk
  have oP : s.heap.get? p = some { cls := .none, data := .fields ps } := I.hok p _ hP
  have gN := I.mod.glob.keeps I.bk
  have cH := TB.code.keeps I.bk
  apply PySem.W.kla_eval hdef
  rw [hq]
  cases hc : codeAmong pos ps.toList with
  | some cv =>
    obtain ⟨d, e, hd⟩ := ha pos cv hc
    subst e
    refine PySem.W.kla_makeFunctionHit (c := c) (P := p) (ps := ps) (closure_ok hfree) I.ok.glob gN hcode cH oP ht hc bP ?_
    intro ctv h' tk k1 k2
    refine h h'.objs.size d _ ctv H _ ps (I.kept (t' := tk) fun b o e => Heap.get?_push_of_some _ (k1 b o e)) (fun b o e _ => e) hP ht (fun _ _ e => .inl e) hd (Heap.get?_push_size _ rfl)
  | none =>
    refine PySem.W.kla_makeFunction (c := c) (P := p) (ps := ps) (closure_ok hfree) I.ok.glob gN hcode cH oP ht hc TB.gP bP ?_
    intro d ctv h' tk k1 k2 k3 k4 k5
    obtain ⟨d2, oc, vs, t, e2, z1, z2, z3⟩ := k4
    cases e2
    have nd : H d = none := I.hok.fresh k2
    have npd : p ≠ d := ne_of_none hP nd
    have J := inv_table (t' := tk) (c := d) (q := q) (more := #[rawInt pos.line, rawInt pos.col, .ref d]) (h' := h'.push (PySem.W.kla_obj "<lambda>" q params body scope (cloFrom X.env.cells scope.names []) ((X.mg "__name__").getD .none) d ctv)) I hP (fun b o nb e => Heap.get?_push_of_some _ (k1 b o nb e)) (Heap.get?_push_of_some _ k5) k2 ⟨oc, vs, t, Heap.get?_push_of_some _ z1, z2, z3⟩
    have eL : (ps ++ #[rawInt pos.line, rawInt pos.col, .ref d]).toList = ps.toList ++ [rawInt pos.line, rawInt pos.col, .ref d] := by simp
    refine h h'.objs.size d _ ctv _ _ (ps ++ #[rawInt pos.line, rawInt pos.col, .ref d]) J (fun b o e nb => ?_) ?_ ?_ (fun p' cv e => ?_) upd_same (Heap.get?_push_size _ rfl)
    · rw [upd_ne (ne_of_none e nd), upd_ne nb]
      exact e
    · rw [upd_ne npd, upd_same]
    · rw [eL]
      exact PySem.TriplesOk_snoc _ _ _ _ ht
    · rw [eL] at e
      rcases among_app _ ht e with z | z
      · exact .inl z
      · exact .inr ⟨z, nd⟩
end

/-! ### the table in the store -/
theorem Rel.tabN {N : Ent} {L : List Addr} {as1 : List (List Addr)} {st : ST} {σ : L2.St} {H H1 : Hp} (r : Rel N L as1 st σ H) {j : Nat} {p : Addr} {q : Str} {qs : Array Value} (f : as1[j]? = some [p]) (e : st.gs[j]? = some (.tab q)) (x : ∀ b o, H b = some o → b ≠ p → H1 b = some o)
    (h1 : H1 p = some (.tbl qs)) (hc : N.cls 100 = .ref p) (ht : TriplesOk qs.toList) (ok : ∀ (pos : Pos) (cv : Value), codeAmong pos qs.toList = some cv → ∃ c, cv = .ref c ∧ H1 c = some (CodeO c q) ∧ c ∉ L) :
    Rel N L as1 st σ H1 ∧ Ext L as1 H L as1 H1 := by
  have pin : p ∈ L := r.g.gin _ (List.mem_of_getElem? f) p (by simp)
  have lp : H p ≠ none := r.live p pin
  let H2 : Hp := fun b => if b = p then H p else H1 b
  have s2 : Same H H2 := fun b o h => by
    show (if b = p then H p else H1 b) = some o
    by_cases z : b = p
    · rw [if_pos z, ← z]
      exact h
    · rw [if_neg z]
      exact x b o h z
  have e1 : upd H2 p (.tbl qs) = H1 := by
    funext b
    by_cases z : b = p
    · rw [z, upd_same, h1]
    · rw [upd_ne z]
      exact if_neg z
  have r2 := r.grow s2
  obtain ⟨r3, x3⟩ := r2.mutG (o := .tbl qs) (go := .tab q) f (by
    refine ⟨p, qs, rfl, hc, upd_same, ht, fun pos cv h => ?_⟩
    obtain ⟨c, z1, z2, z3⟩ := ok pos cv h
    refine ⟨c, z1, mask_of ?_ z3⟩
    have : c ≠ p := fun z => z3 (by rw [z]; exact pin)
    show (if c = p then H p else H1 c) = _
    rw [if_neg this]
    exact z2)
  rw [e1] at r3 x3
  have eg : st.gs.set j (.tab q) = st.gs := by
    obtain ⟨hj, e⟩ := List.getElem?_eq_some_iff.mp e
    rw [← e, List.set_getElem_self]
  rw [eg] at r3
  exact ⟨r3, (Ext.grow s2).trans x3⟩

/-! ### sorted(xs, key=lambda one: one[0]) -/
def insB {α : Type} (le : α → α → Bool) (a : α) : List α → List α
  | [] => [a]
  | b :: l => if le a b then a :: b :: l else b :: insB le a l
def sortB {α : Type} (le : α → α → Bool) : List α → List α
  | [] => []
  | a :: l => insB le a (sortB le l)
theorem insB_mid {α : Type} {le : α → α → Bool} {a : α} : ∀ {l₁ l₂ : List α}, (∀ b ∈ l₁, (!le a b) = true) → (∀ b ∈ l₂, le a b = true) → insB le a (l₁ ++ l₂) = l₁ ++ a :: l₂
  | [], [], _, _ => rfl
  | [], b :: l, _, h => by
    show (if le a b then a :: b :: l else b :: insB le a l) = _
    rw [if_pos (h b (List.mem_cons_self ..))]; rfl
  | b :: l, l₂, h1, h2 => by
    show (if le a b then a :: b :: (l ++ l₂) else b :: insB le a (l ++ l₂)) = _
    have := h1 b (List.mem_cons_self ..)
    rw [if_neg (by intro e; rw [e] at this; cases this), insB_mid (fun c hc => h1 c (List.mem_cons_of_mem _ hc)) h2]; rfl
theorem sortB_eq {α : Type} {le : α → α → Bool} (tr : ∀ a b c : α, le a b = true → le b c = true → le a c = true) (to : ∀ a b : α, (le a b || le b a) = true) : ∀ l : List α, sortB le l = l.mergeSort le
  | [] => by rw [List.mergeSort_nil]; rfl
  | a :: l => by
    obtain ⟨l₁, l₂, h1, h2, h3⟩ := List.mergeSort_cons (le := le) tr to a l
    have hp := List.pairwise_mergeSort (le := le) tr to (a :: l)
    rw [h1] at hp ⊢
    have hp2 := (List.pairwise_append.mp hp).2.1
    show insB le a (sortB le l) = _
    rw [sortB_eq tr to l, h2]
    exact insB_mid h3 (fun b hb => List.rel_of_pairwise_cons hp2 hb)
theorem leRow_tr {α : Type} (f : α → List Int) (a b c : α) (h1 : decide (f a ≤ f b) = true) (h2 : decide (f b ≤ f c) = true) : decide (f a ≤ f c) = true := decide_eq_true (List.le_trans (of_decide_eq_true h1) (of_decide_eq_true h2))
theorem leRow_to {α : Type} (f : α → List Int) (a b : α) : (decide (f a ≤ f b) || decide (f b ≤ f a)) = true := by
  rcases List.le_total (f a) (f b) with h | h
  · rw [decide_eq_true h]; rfl
  · rw [decide_eq_true h, Bool.or_true]
def hdI : PyData → Int
  | .tuple (.int i :: _) => i
  | _ => 0
def okI : PyData → Bool
  | .tuple (.int _ :: _) => true
  | _ => false
def leI0 (a b : PyData) : Bool := decide (hdI a ≤ hdI b)
theorem leI0_tr (a b c : PyData) (h1 : leI0 a b = true) (h2 : leI0 b c = true) : leI0 a c = true := decide_eq_true (Int.le_trans (of_decide_eq_true h1) (of_decide_eq_true h2))
theorem leI0_to (a b : PyData) : (leI0 a b || leI0 b a) = true := by
  unfold leI0
  rcases Int.le_total (hdI a) (hdI b) with h | h
  · rw [decide_eq_true h]; rfl
  · rw [decide_eq_true h, Bool.or_true]
def sortByD : PyData → Option PyData
  | .list ds => if ds.all okI = true ∧ ds.length ≤ 1000 then some (.list (sortB leI0 ds)) else none
  | _ => none
@[simp] def mSortBy (kt : Nat) (q : Str) (mr : M (List RV)) (st0 : ST) : R RV := (mr.bind fun r => fun st => match r, st.gs[kt]? with
  | [a], some (.tab q') => if q' = q then outO ((st.look a).bind sortByD) st else .stuck
  | _, _ => .stuck) st0
theorem Ats.zip_get {F : Hp} : ∀ {vs : List V} {ds : List PyData}, Ats F vs ds → ∀ p ∈ vs.zip ds, At F p.1 p.2
  | _, _, .nil, p, h => by simp at h
  | _, _, .cons h r, p, m => by
    rw [List.zip_cons_cons] at m
    rcases List.mem_cons.mp m with rfl | m
    · exact h
    · exact Ats.zip_get r p m
theorem Ats.of_pairs {F : Hp} : ∀ (l : List (V × PyData)), (∀ p ∈ l, At F p.1 p.2) → Ats F (l.map (·.1)) (l.map (·.2))
  | [], _ => .nil
  | p :: l, h => .cons (h p (by simp)) (Ats.of_pairs l fun q hq => h q (by simp [hq]))
theorem vals_each : ∀ {vs : List V} {us : List Value} {ds : List PyData}, Vals vs us → vs.length = ds.length → PySem.W.EachIs (fun (u : Value) (p : V × PyData) => RelV p.1 u ∧ p ∈ vs.zip ds) us (vs.zip ds) := by
  intro vs us ds r hl
  have gen : ∀ (vs : List V) (us : List Value) (ds : List PyData) (all : List (V × PyData)), Vals vs us → vs.length = ds.length → (∀ p ∈ vs.zip ds, p ∈ all) → PySem.W.EachIs (fun (u : Value) (p : V × PyData) => RelV p.1 u ∧ p ∈ all) us (vs.zip ds) := by
    intro vs
    induction vs with
    | nil => intro us ds all r hl hm; cases r; exact .nil
    | cons v vs ih =>
      intro us ds all r hl hm
      cases r with
      | cons h t =>
        cases ds with
        | nil => simp at hl
        | cons d ds => exact .cons ⟨h, hm _ (by simp)⟩ (ih _ ds all t (by simpa using hl) fun p hp => hm p (by simp [hp]))
  exact gen vs us ds _ r hl fun p h => h
theorem each_vals : ∀ {us : List Value} {l : List (V × PyData)} {T : V × PyData → Prop}, PySem.W.EachIs (fun (u : Value) (p : V × PyData) => RelV p.1 u ∧ T p) us l → Vals (l.map (·.1)) us
  | _, _, _, .nil => .nil
  | _, _, _, .cons h r => .cons h.1 (each_vals r)
section
variable {X : Cx} {N : Ent} {W : WX} {a : Expr} {mr : M (List RV)} {pos : Pos}
theorem je_sortBy {kt k j : Nat} {q x : Str} {c pt : Addr} {params : Arguments} {scope : Scope} {p p1 p2 p3 lp kp : Pos} (hm : X.mg "sorted" = none) (ha : JA X N W [a] mr) (TB : TabB X.base X.mg c pt) (hcode : X.env.code = .ref c) (hcl : N.cls 100 = .ref pt) (hr : Room k X.A)
    (hq : X.env.qual ++ "<lambda>" = q) (hbind : ∀ (cl : List (Str × Addr)) (pm cv ctv u : Value), bindArgs (PySem.W.kla_fn "<lambda>" q params (.Subscript (.Name x p1) (.Constant (.int 0) j p2) p3) scope cl pm cv ctv) ⟨[u], []⟩ = pure [(x, u)])
    (hk : scope.kind = .function) (hco : scope.isCoroutine = false) (hgen : scope.isGenerator = false) (hloc : scope.names.lookup x = some .local) (hcell : ∀ y ∈ scope.names, y.2 ≠ .cell ∧ y.2 ≠ .free)
    (hdef : defaultsOf params X.env = ([], []) := by rfl) (hg : Gl X "sorted" := by rfl) (hd : (x == ("__debug__" : Str)) = false := by decide)
    (he : backTo pos (starEach [a] X.env) = (false, eval a X.env) :: backTo pos (starEach [] X.env) := by rfl) (hpl : (backTo pos (starEach [a] X.env)).any (·.1) = false := by rfl) :
    JE X N W (.Call (.Name "sorted" p) [a] [⟨some "key", .Lambda params (.Subscript (.Name x p1) (.Constant (.int 0) j p2) p3) scope lp, kp⟩] pos) (mSortBy kt q mr) := by
  refine ⟨fun pins s σ H Q I h => ?_⟩
  obtain ⟨L, as1, st, rel, h⟩ := h
  refine wpAny_Call_Name_kw (ld_blt I hg hm boot_sorted ?_)
  refine PyProof.Rows.callWith_kw (thn (ha.run pos pins s σ H _ I (fin_bind (P1 := VRels) rel h)) fun us s1 ⟨vs, H1, I1, r1, L3, as3, s3, rs, r3, v3, x3, f3⟩ => ?_) he hpl rfl rfl
  -- what the state says
  cases v3 with
  | nil => exact f3.elim
  | @cons v vs' rv rs' hv ht =>
    cases ht with
    | cons _ _ => exact f3.elim
    | nil =>
      obtain ⟨u, rfl, ru⟩ := vals1 r1
      cases eg : s3.gs[kt]? with
      | none => rw [eg] at f3; exact f3.elim
      | some go =>
        rw [eg] at f3
        cases go with
        | drw _ _ => exact f3.elim
        | acc _ => exact f3.elim
        | dk _ => exact f3.elim
        | dt _ => exact f3.elim
        | exn _ => exact f3.elim
        | tpl _ => exact f3.elim
        | ins _ => exact f3.elim
        | dl _ => exact f3.elim
        | dz _ => exact f3.elim
        | dn _ => exact f3.elim
        | d0 _ => exact f3.elim
        | tab q' =>
          dsimp only at f3
          by_cases hqq : q' = q
          · subst hqq
            rw [if_pos rfl] at f3
            have hj : kt < as3.length := by
              rw [r3.g.glen]
              exact (List.getElem?_eq_some_iff.mp eg).1
            obtain ⟨fp, ef⟩ : ∃ fp, as3[kt]? = some fp := ⟨_, List.getElem?_eq_getElem hj⟩
            obtain ⟨p', ps, e0, e1, hP, hT, hC⟩ := r3.g.gok kt _ fp eg ef
            subst e0
            rw [hcl] at e1
            cases e1
            cases e2 : s3.look rv with
            | none => rw [e2] at f3; exact f3.elim
            | some d =>
              rw [e2] at f3
              simp only [Option.bind_some] at f3
              cases d with
              | none => exact f3.elim
              | bool b => exact f3.elim
              | int b => exact f3.elim
              | dict b => exact f3.elim
              | tuple b => exact f3.elim
              | str b => exact f3.elim
              | list ds =>
                unfold sortByD at f3
                dsimp only at f3
                by_cases hok : ds.all okI = true ∧ ds.length ≤ 1000
                · rw [if_pos hok] at f3
                  rw [sortB_eq leI0_tr leI0_to] at f3
                  have f3 : Fin N W VRel L3 as3 σ H1 (.ok (.dat (.list (ds.mergeSort leI0))) s3) Q := f3
                  obtain ⟨l, ws, rfl, hl, hs⟩ := (r3.look hv e2).list
                  cases ru
                  show wpAny (model X.prog X.w) X.A (evalAll ((do let v ← eval (.Lambda params (.Subscript (.Name x p1) (.Constant (.int 0) j p2) p3) scope lp) X.env; standAt pos; pure v) :: [])) _ _ s1
                  refine wpAny_evalAll_cons (wpAny_bind (lam_mk (p := pt) (c := c) (q := q') (ps := ps) I1 TB hcode hq hP hT (fun p2 cv e => ?_) hdef (fun y hy hf => absurd hf (hcell y hy).2) ?_))
                  · obtain ⟨d, z1, z2⟩ := hC p2 cv e
                    exact ⟨d, z1, mask_same _ _ z2⟩
                  intro f d pm ctv H4 s4 qs I4 k1 k2 k3 k4 k5 k6
                  refine wpAny_bind (wpAny_standAt (wpAny_pure (wpAny_evalAll_nil ?_)))
                  have pin : pt ∈ L3 := r3.g.gin _ (List.mem_of_getElem? ef) pt (by simp)
                  obtain ⟨r4, x4⟩ := r3.tabN ef eg k1 k2 hcl k3 (fun pos' cv e => by
                    rcases k4 pos' cv e with z | ⟨z, z'⟩
                    · obtain ⟨c2, y1, y2⟩ := hC pos' cv z
                      obtain ⟨y3, y4⟩ := of_mask y2
                      exact ⟨c2, y1, k1 _ _ y3 (fun w => y4 (by rw [w]; exact pin)), y4⟩
                    · exact ⟨d, z, k5, fun w => r3.live d w z'⟩)
                  have nl : l ≠ pt := fun w => by
                    rw [w, hP] at hl
                    cases hl
                  have hl4 := k1 _ _ hl nl
                  have hs4 := hs.mono x4.dat
                  obtain ⟨its, rv4, pl, hz⟩ := I4.list (SqL.of hl4)
                  have hlen : ws.length = ds.length := hs.length
                  obtain ⟨⟨oc, vs', tq, hoc, hdc, hvc⟩, _, _⟩ := I4.hok d _ k5
                  have heads : ∀ pr ∈ ws.zip ds, ∀ u, RelV pr.1 u → ∃ (t : Addr) (items : Array Value) (tk : Tok), u = .ref t ∧ IsTup s4.heap t items ∧ items[0]? = some (.int (hdI pr.2) tk) := fun pr hp u ru => by
                    have hat := Ats.zip_get hs4 pr hp
                    have hb : okI pr.2 = true := List.all_eq_true.mp hok.1 _ (List.of_mem_zip hp).2
                    obtain ⟨pv, pd⟩ := pr
                    dsimp only at hat hb ru ⊢
                    unfold okI at hb
                    split at hb
                    · rename_i i rest
                      cases hat with
                      | tup ht hs' =>
                        cases ru
                        cases hs' with
                        | cons h0 _ =>
                          cases h0
                          obtain ⟨its', rv', pl', _⟩ := I4.tuple (SqT.of (mask_same _ _ ht))
                          cases rv' with
                          | cons g0 _ =>
                            obtain ⟨tk, rfl⟩ := g0
                            exact ⟨_, _, tk, rfl, pl', by simp [hdI]⟩
                    · cases hb
                  show wpAny (model X.prog X.w) X.A (call (.builtin "sorted") [.ref l] [(Str.ofString "key", .ref f)]) (EP X pins σ Q) X.xe s4
                  have hun := hr.un
                  refine PySem.W.sorted_key_data (b := false) (f := .ref f) (vs := its) (bs := ws.zip ds) (R := fun (u : Value) (pr : V × PyData) => RelV pr.1 u ∧ pr ∈ ws.zip ds) (fun pr : V × PyData => PyData.int (hdI pr.2)) pl.isList (vals_each rv4 hlen)
                    (PySem.W.AllAlike.of fun _ _ => by simp [PySem.W.alike]) (PySem.W.Sortable.others fun _ => ⟨(fun z => nomatch z), fun _ z => nomatch z⟩) ?_ (fun pr _ => ?_) (PyProof.Rows.ksk_s1 _ _) (fun _ => PyProof.Rows.ksk_l1 _ _) (fun _ => PyProof.Rows.ksk_t1 _ _) ?turn ?fin
                  · have : (ws.zip ds).length ≤ 1000 := by rw [List.length_zip]; omega
                    exact Nat.le_of_lt (small1000 this)
                  · simp only [PyData.depth]
                    omega
                  case turn =>
                    intro u pr ⟨ru, hm2⟩ _ h5 tk5 kp5
                    obtain ⟨t, items, tk, rfl, ht, hi⟩ := heads pr hm2 u ru
                    refine lam_turn (s := { s4 with heap := h5, toks := tk5 }) ?_ (kp5 _ _ k6) ⟨d, oc, vs', tq, rfl, kp5 _ _ hoc, hdc, hvc⟩ hk hco hgen hloc (fun y hy => (hcell y hy).1) (I4.nolimit.keeps kp5) (fun u => hbind _ _ _ _ u) ?_ hi hd
                    · have := hr.dp
                      show X.A.depth < _
                      omega
                    · obtain ⟨o, e, r⟩ := ht
                      exact ⟨o, kp5 _ _ e, r⟩
                  case fin =>
                    intro out c5 h5 tk5 kp5 n5 o5 _ he5
                    rw [PySem.W.dataLe_int] at he5
                    have hmem : ∀ pr ∈ (ws.zip ds).mergeSort (fun a b => decide (hdI a.2 ≤ hdI b.2)), pr ∈ ws.zip ds := fun pr hp => (List.mergeSort_perm _ _).mem_iff.mp hp
                    have hd5 : ((ws.zip ds).mergeSort (fun a b => decide (hdI a.2 ≤ hdI b.2))).map (·.2) = ds.mergeSort leI0 := by
                      rw [List.map_mergeSort (r := fun a b => decide (hdI a.2 ≤ hdI b.2)) (s := leI0) (f := fun pr : V × PyData => pr.2) (l := ws.zip ds) (fun _ _ _ _ => rfl)]
                      congr 1
                      exact List.map_snd_zip (by omega)
                    have hats : Ats (mask H4 L3) (((ws.zip ds).mergeSort (fun a b => decide (hdI a.2 ≤ hdI b.2))).map (·.1)) (ds.mergeSort leI0) := by
                      rw [← hd5]
                      exact Ats.of_pairs _ fun pr hp => Ats.zip_get hs4 pr (hmem pr hp)
                    have hvals := each_vals he5
                    have n0 : H4 (s4.heap.objs.size + 1) = none := I4.hok.fresh (Nat.le_succ _)
                    have J5 : Inv X pins σ (upd H4 (s4.heap.objs.size + 1) (.lst (((ws.zip ds).mergeSort (fun a b => decide (hdI a.2 ≤ hdI b.2))).map (·.1)))) { s4 with heap := h5, toks := tk5 } := by
                      refine I4.laid (t' := tk5) kp5 (Nat.le_succ _) ⟨?_, out, c5, hvals, o5⟩
                      rw [List.length_map, (List.mergeSort_perm _ _).length_eq, List.length_zip]
                      exact Nat.le_of_lt (small1000 (by omega))
                    exact ⟨.ref _, _, J5, rfl, fin_alloc r4 (f3.from x4) n0 fun H' e sm => .lst e (hats.mono sm)⟩
                · rw [if_neg hok] at f3
                  exact f3.elim
          · rw [if_neg hqq] at f3
            exact f3.elim
end
end JL
/-! J31: the law's frame and end with a table of code objects. -/
namespace JL
open PySem PySem.Spec PyProof.Rows L2 LamX

def spLawT (K : PySem.W.Frag) (P : Addr) : Sp := fun vs H Q _ => ∃ (a : Addr) (ns : List Int), vs = [.ref a] ∧ SqL K H a (ns.map V.int) ∧ ns.length ≤ 63 ∧ H P = some (.tbl #[]) ∧ ∀ H', Q (.bl true) H'
def lawStartT (n i : Nat) (q : Str) (ns : List Int) : ST := ⟨(List.replicate n SV.un).set i (.hdl 0), [.drw ns 0, .tab q]⟩
theorem rel_lawT {cls : Cl} {H H' : Hp} {p q t : Addr} {qn : Str} {ms : List Int} {σ : L2.St} {n i : Nat} (sm : Same H H') (hq : H q = none) (hp : H p = none) (npq : p ≠ q) (hq' : H' q = some (.lst (ms.map V.int))) (hp' : H' p = some (.lst [.ref q, .int 0])) (hl : σ.length = n) (hi : i < n)
    (ht : H t = some (.tbl #[])) (hc : cls 100 = .ref t) : Rel ⟨[], [], mask H [t], cls⟩ [p, q, t] [[p, q], [t]] (lawStartT n i qn ms) (σ.set i (some (.ref p))) H' := by
  have ntp : t ≠ p := ne_of_none ht hp
  have ntq : t ≠ q := ne_of_none ht hq
  have none_of : ∀ a, H a = none → mask H [t] a = none := fun a h => by
    unfold mask
    split
    · rfl
    · exact h
  have nt : mask H [t] t = none := by
    unfold mask
    rw [if_pos (by simp)]
  have sl : ∀ (k : Nat) (x : SV), (lawStartT n i qn ms).sl[k]? = some x → x = .un ∨ (k = i ∧ x = .hdl 0) := fun k x e => by
    rcases set_get e with ⟨e1, e2, _⟩ | ⟨_, e⟩
    · exact .inr ⟨e1, e2⟩
    · exact .inl (List.eq_of_mem_replicate (List.mem_of_getElem? e))
  have mem3 : ∀ a ∈ [p, q, t], a = p ∨ a = q ∨ a = t := fun a h => by simpa using h
  exact {
    len := by
      show ((List.replicate n SV.un).set i (.hdl 0)).length = _
      rw [List.length_set, List.length_replicate, List.length_set, hl]
    l0 := fun a h => absurd h (by simp)
    sub := fun a h => absurd h (by simp)
    new := fun a h => by
      right
      rcases mem3 a h with rfl | rfl | rfl
      · exact none_of _ hp
      · exact none_of _ hq
      · exact nt
    live := fun a h => by
      rcases mem3 a h with rfl | rfl | rfl
      · rw [hp']; exact fun z => nomatch z
      · rw [hq']; exact fun z => nomatch z
      · rw [sm _ _ ht]; exact fun z => nomatch z
    frame := fun b o h _ => sm _ _ (of_mask h).1
    dat := fun k d e => by
      rcases sl k _ e with z | ⟨_, z⟩ <;> cases z
    own := fun k d e => by
      rcases sl k _ e with z | ⟨_, z⟩ <;> cases z
    owd := fun k l d d' _ e _ => by
      rcases sl k _ e with z | ⟨_, z⟩ <;> cases z
    hdl := fun k j e => by
      rcases sl k _ e with z | ⟨z1, z⟩
      · cases z
      · cases z
        subst z1
        exact ⟨p, [q], rfl, List.getElem?_set_self (by omega)⟩
    g := {
      glen := rfl
      gok := fun j go fp e f => by
        cases j with
        | zero =>
          cases e
          cases f
          exact ⟨p, q, rfl, hp', hq'⟩
        | succ j =>
          cases j with
          | zero =>
            cases e
            cases f
            refine ⟨t, #[], rfl, hc, sm _ _ ht, True.intro, fun pos cv h => ?_⟩
            have h : codeAmong pos [] = some cv := h
            simp [codeAmong] at h
          | succ j => simp [lawStartT] at e
      gin := fun fp h b hb => by
        have : fp = [p, q] ∨ fp = [t] := by simpa using h
        rcases this with rfl | rfl
        · rcases List.mem_cons.mp hb with rfl | hb
          · simp
          · rw [List.mem_singleton.mp hb]; simp
        · rw [List.mem_singleton.mp hb]; simp
      gnd := by
        show [p, q, t].Nodup
        simp [npq, ntp.symm, ntq.symm] }
    gnew := fun b hb => by
      right
      have hb : b ∈ [p, q, t] := by simpa using hb
      rcases mem3 b hb with rfl | rfl | rfl
      · exact none_of _ hp
      · exact none_of _ hq
      · exact nt
    hd := ⟨Nat.zero_le _, fun j a fp h => by simp at h⟩
    nt := fun a h ws => by
      rcases mem3 a h with rfl | rfl | rfl
      · rw [hp']; exact fun z => nomatch z
      · rw [hq']; exact fun z => nomatch z
      · rw [sm _ _ ht]; exact fun z => nomatch z
    ent := fun a h => by simp at h }
section
variable {P : Program} {w : World} {K : PySem.W.Frag} {mg : Str → Option Value} {base : Heap}
theorem law_okT {x qual qn : Str} {st s0 : Stmt} {rest : List Stmt} {f t : Addr} {fd : FuncData} {Nn : List Str} {k i : Nat} {mb : M Flw} (cls : Cl) (hc : cls 100 = .ref t) (F : Fun K x qual st f fd) (S : FnScope Nn ["script"] (defScope st)) (hb : defBody st = s0 :: rest) (hi : i < Nn.length)
    (h0 : ∀ (cdv : Value) (A : Around) (outer : List Env) (s : Shared) (H : Hp) (E : XK), Room k (A.deeper (envOfC qual (defScope st) s.heap.objs.size f cdv)) →
      PS (cxOf (L2.CX P w) P w K mg base Nn qual (defScope st) f cdv A outer s H E) s0 (tAsg (tCallS (spStart K) (WE fun c d _ H' => E c d H') (tCons (tVar 0) tNil)) (gName i)))
    (hbody : ∀ (cdv : Value) (A : Around) (outer : List Env) (s : Shared) (H : Hp) (E : XK), Room k (A.deeper (envOfC qual (defScope st) s.heap.objs.size f cdv)) →
      JSs (cxOf (L2.CX P w) P w K mg base Nn qual (defScope st) f cdv A outer s H E) ⟨[], [], mask H [t], cls⟩ (fun c d _ H' => E c d H') rest mb)
    (hrun : ∀ ns : List Int, 0 < ns.length → ns.length ≤ 63 → ∃ st', mb (lawStartT Nn.length i qn ns) = .ok (.ret (.dat (.bool true))) st') :
    FnOk P w K mg base (L2.CX P w) (k + 1) f fd ["script"] (spLawT K t) := by
  refine F.okX S (fun vs H Q E h => ?_) fun cdv A outer s H vs Q E hr h => ?_
  · obtain ⟨a, ns, rfl, _⟩ := h
    rfl
  · obtain ⟨a, ns, rfl, hS, hl, ht, q⟩ := h
    rw [hb]
    refine ⟨_, pss_cons (h0 cdv A outer s H E hr) (hbody cdv A outer s H E hr), ?_⟩
    refine ⟨.ref a, rfl, a, ns, rfl, hS, hl, fun q' p H1 sm hq hp npq hq1 hp1 => ?_⟩
    have hl2 : 0 < (startRow ns).length ∧ (startRow ns).length ≤ 63 := by
      unfold startRow
      split
      · exact ⟨by decide, by decide⟩
      · rename_i hne
        refine ⟨?_, hl⟩
        cases ns with
        | nil => exact absurd rfl hne
        | cons x r => exact Nat.succ_pos _
    obtain ⟨st', e⟩ := hrun (startRow ns) hl2.1 hl2.2
    have hnl : 1 ≤ Nn.length := by
      have := congrArg List.length S.pre
      rw [List.length_take] at this
      simp only [List.length_cons, List.length_nil] at this
      omega
    refine ⟨_, _, _, rel_lawT (qn := qn) (ms := startRow ns) (n := Nn.length) (i := i) sm hq hp npq hq1 hp1 ?_ hi ht hc, ?_⟩
    · show (L2.start Nn [V.ref a]).length = _
      unfold L2.start
      rw [List.length_append, List.length_map, List.length_replicate]
      simp only [List.length_cons, List.length_nil]
      omega
    · rw [e]
      intro L' as1' σ' v H' r hv _
      have hv' : At (mask H' L') v (.bool true) := hv
      cases hv'
      exact q _
end
/-! ### the end -/
theorem tab_mk {K : PySem.W.Frag} {h : Heap} {mg : Str → Option Value} {y : Str} {st : Stmt} {f c t : Addr} {oc kV dc pm ct oe : Value} {od an dd : Option Addr} {sl sl2 : Array (Option Value)} {vs : Array Value} {ts : List Addr} (X : K.In h) (G : h.Ns mainGlobals mg) (Y : ∀ P ∈ ts, h.get? P = some (PySem.W.tabObj #[]))
    (a : PySem.W.nsIn K mainGlobals y = some (some (.ref f))) (l : K.lookup f = some ⟨oc, od, .func (PySem.W.fnOf y y (defArgs st) (defBody st) (defScope st) .none kV dc pm an (.ref c) ct), sl⟩) (l2 : K.lookup c = some ⟨oe, dd, .fields vs, sl2⟩) (v : vs[11]? = some (.ref t))
    (e : PySem.W.codeHdIn K c t = true) (b : ts.contains t = true) (n : K.lookup t = none) :
    ∃ c t : Addr, (∀ (f' : Addr) (fd : FuncData), mg y = some (.ref f') → Fun K y y st f' fd → fd.code = .ref c) ∧ h.get? t = some (PySem.W.tabObj #[]) ∧ PySem.W.CodeHd h c t ∧ K.lookup t = none := by
  refine ⟨c, t, fun f' fd hg F => ?_, Y t (by simpa using b), PySem.W.codeHd_of_K X e, n⟩
  have e1 := PySem.W.mg_of X G a
  rw [hg] at e1
  cases e1
  obtain ⟨oc', od', kV', doc', pm', an', cdv', ct', osl', e0, lk, hcd⟩ := F.ex
  rw [l] at lk
  cases lk
  rfl
theorem walkT {l : PySem.W.OpenLaw} {q : Program} {loose : List Str} {XP : (Str → Option Value) → Heap → Prop} {YP : World → Heap → Prop} {d : DefRec} {K : Params → PySem.W.Frag} {k : Nat} (hn : l.most = some 63) (hdf : d.params.defaults = []) (hr : Room k callerA)
    (hY : ∀ (w : World) (h : Heap), YP w h → (K w.params).In h)
    (F : ∀ (w : World) (mg : Str → Option Value) (fa : Addr) (h : Heap), (K w.params).In h → h.Ns mainGlobals mg → mg d.name = some (.ref fa) → YP w h →
      ∃ (fd : FuncData) (c t : Addr), h.get? t = some (PySem.W.tabObj #[]) ∧ PySem.W.CodeHd h c t ∧ (K w.params).lookup t = none ∧ (∀ (s : Shared) (u : Value), BindsTo s fd ⟨[u], []⟩ [("script", u)]) ∧
        ∀ base : Heap, (K w.params).In base → base.Ns mainGlobals mg → TabB base mg c t → FnOk l.prog w (K w.params) mg base (L2.CX l.prog w) k fa fd ["script"] (spLawT (K w.params) t)) :
    PySem.W.WalkO q loose XP YP l.row.toRowW d [] (fun f vs => PySem.call f vs) := by
  refine Att.attach_callB hn hdf fun w s₀ s₁ mg mb fa o pm cd doc a vs ns G Y ho hd hcd hmg hobj hints hlen hbits hg => ?_
  have KX := hY w _ Y
  obtain ⟨fd, c, t, t2, t1, h2, h3, h4⟩ := F w mg fa _ KX G.T.g hmg Y
  have one : ∀ p ∈ [(c, t)], p = (c, t) := fun p hp => List.mem_singleton.mp hp
  refine law_callTs (cs := [(c, t)]) (sp := spLawT (K w.params) t) KX G.T.g G.T.b G.T.builtins G.T.nolimit hg (fun p hp => ?_) (fun p hp => ?_) (fun p hp => ?_) G.T.bmain hobj hints (Nat.le_trans hlen (by decide)) hr (fun base b1 b2 b3 => h4 base b1 b2 (b3 (c, t) (by simp))) h3 (fun H hH hS => ⟨a, ns, rfl, hS, hlen, hH (c, t) (by simp), fun _ => rfl⟩) fun H e s' hx => ?_
  · rw [one p hp]; exact t2
  · rw [one p hp]; exact h2
  · rw [one p hp]; exact t1
  · obtain ⟨_, _, _, _, _, _, _, _, _, _, _, _, z⟩ := hx
    exact z
end JL
/-! J32: sorted of pairs of ints. -/
namespace JL
open PySem PySem.Spec PyProof.Rows L2
def encP (p : Int × Int) : PyData := .tuple [.int p.1, .int p.2]
def leP (p q : Int × Int) : Bool := decide (p.1 < q.1 ∨ (p.1 = q.1 ∧ p.2 ≤ q.2))
def prOf : PyData → Option (Int × Int)
  | .tuple [.int a, .int b] => some (a, b)
  | _ => none
theorem prOf_eq {d : PyData} {p : Int × Int} (h : prOf d = some p) : d = encP p := by
  unfold prOf at h
  split at h
  · cases h; rfl
  · cases h
def prsOf : List PyData → Option (List (Int × Int))
  | [] => some []
  | d :: r => (prOf d).bind fun p => (prsOf r).bind fun ps => some (p :: ps)
theorem prsOf_eq : ∀ {ds : List PyData} {ps : List (Int × Int)}, prsOf ds = some ps → ds = ps.map encP
  | [], ps, h => by cases h; rfl
  | d :: r, ps, h => by
    rw [prsOf] at h
    cases e1 : prOf d with
    | none => rw [e1] at h; cases h
    | some p =>
      cases e2 : prsOf r with
      | none => rw [e1, e2] at h; cases h
      | some qs =>
        rw [e1, e2] at h
        cases h
        rw [List.map_cons, ← prOf_eq e1, ← prsOf_eq e2]
theorem prsOf_map : ∀ ps : List (Int × Int), prsOf (ps.map encP) = some ps
  | [] => rfl
  | p :: r => by
    rw [List.map_cons, prsOf, prsOf_map r]
    rfl
theorem leP_tr (a b c : Int × Int) (h1 : leP a b = true) (h2 : leP b c = true) : leP a c = true := by
  have h1 := of_decide_eq_true h1
  have h2 := of_decide_eq_true h2
  exact decide_eq_true (by omega)
theorem leP_to (a b : Int × Int) : (leP a b || leP b a) = true := by
  rw [Bool.or_eq_true]
  by_cases h : a.1 < b.1 ∨ (a.1 = b.1 ∧ a.2 ≤ b.2)
  · exact Or.inl (decide_eq_true h)
  · exact Or.inr (decide_eq_true (by omega))
@[simp] def sortPD : List PyData → Option PyData
  | [.list zs] => (prsOf zs).bind fun ps => if ps.length ≤ 1000 then some (.list ((sortB leP ps).map encP)) else none
  | _ => none
def rSortP (K : PySem.W.Frag) : List V → Hp → VK → Prop := fun vs H Q => ∃ (a : Addr) (ws : List V) (ps : List (Int × Int)), vs = [.ref a] ∧ H a = some (.lst ws) ∧ DpAll K H ws (ps.map encP) ∧ ps.length ≤ 1000 ∧
  ∀ p, H p = none → Q (.ref p) (upd H p (.lst (((ws.zip ps).mergeSort fun x y => leP x.2 y.2).map (·.1))))
theorem each_dp {K : PySem.W.Frag} {H : Hp} : ∀ {ws : List V} {us : List Value} {ps : List (Int × Int)}, Vals ws us → DpAll K H ws (ps.map encP) → PySem.W.EachIs (fun (u : Value) (b : V × Int × Int) => RelV b.1 u ∧ Dp K H b.1 (encP b.2)) us (ws.zip ps)
  | _, _, [], .nil, .nil => .nil
  | _, _, p :: ps, .cons r t, .cons d e => .cons ⟨r, d⟩ (each_dp t e)
theorem dpAll_len {K : PySem.W.Frag} {H : Hp} : ∀ {ws : List V} {ds : List PyData}, DpAll K H ws ds → ws.length = ds.length
  | _, _, .nil => rfl
  | _, _, .cons _ e => by rw [List.length_cons, List.length_cons, dpAll_len e]
theorem each_fst : ∀ {us : List Value} {l : List (V × Int × Int)} {T : V × Int × Int → Prop}, PySem.W.EachIs (fun (u : Value) (p : V × Int × Int) => RelV p.1 u ∧ T p) us l → Vals (l.map (·.1)) us
  | _, _, _, .nil => .nil
  | _, _, _, .cons h r => .cons h.1 (each_fst r)
section
variable {X : Cx}
theorem cr_sortP (hu : X.A.units + 65 < cLine) : CallR X (.builtin "sorted") (rSortP X.K) := by
  intro pins s σ H vs us Q I r h
  obtain ⟨a, ws, ps, rfl, ha, hd, hl, q⟩ := h
  obtain ⟨its, rv, pl, hz⟩ := I.list (SqL.of ha)
  rw [Vals.ref1 r]
  have hlen : ws.length = ps.length := by rw [dpAll_len hd, List.length_map]
  have e := each_dp rv hd
  refine PySem.W.sorted_data (bs := ws.zip ps) (enc := fun b : V × Int × Int => encP b.2) pl.isList e (e.mono fun u b hb => Dp.reads I _ b.1 u hb.2 hb.1) (PySem.W.AllAlike.of fun _ _ => by simp [encP, PySem.W.alike, PySem.W.alikeAll]) (PySem.W.Sortable.tuples fun _ => ⟨_, _, rfl⟩) ?_ (fun b _ => ?_) fun out h1 h2 => ?_
  · have : (ws.zip ps).length ≤ 1000 := by rw [List.length_zip]; omega
    exact Nat.le_of_lt (small1000 this)
  · simp only [encP, PyData.depth, PyData.depthAll]
    omega
  have ele : PySem.W.dataLe false (fun b : V × Int × Int => encP b.2) = fun x y => leP x.2 y.2 := PySem.W.dataLe_ii (fun b : V × Int × Int => b.2.1) fun b => b.2.2
  rw [ele] at h2
  obtain ⟨ep, he'⟩ := PyProof.Rows.sortedAll_at s.heap its out.toArray
  have hlen2 : (((ws.zip ps).mergeSort fun x y => leP x.2 y.2).map (·.1)).length ≤ sizeLine := by
    rw [List.length_map, (List.mergeSort_perm _ _).length_eq, List.length_zip]
    exact Nat.le_of_lt (small1000 (by omega))
  exact ⟨.ref _, upd H (s.heap.objs.size + 1) (.lst (((ws.zip ps).mergeSort fun x y => leP x.2 y.2).map (·.1))), I.laid (t' := s.toks) (fun _ _ => PyProof.Rows.sortedAll_old) (Nat.le_succ _) ⟨hlen2, out, ep, each_fst h2, he'⟩, rfl, q _ (I.hok.fresh (Nat.le_succ _))⟩
end
theorem ats_zip {F : Hp} : ∀ {ws : List V} {ps : List (Int × Int)}, Ats F ws (ps.map encP) → ∀ b ∈ ws.zip ps, At F b.1 (encP b.2)
  | _, [], .nil, b, h => by simp at h
  | _, p :: ps, .cons h r, b, m => by
    rw [List.zip_cons_cons] at m
    rcases List.mem_cons.mp m with rfl | m
    · exact h
    · exact ats_zip r b m
theorem ats_fst {F : Hp} : ∀ (l : List (V × Int × Int)), (∀ b ∈ l, At F b.1 (encP b.2)) → Ats F (l.map (·.1)) (l.map fun b => encP b.2)
  | [], _ => .nil
  | b :: l, h => .cons (h b (by simp)) (ats_fst l fun q hq => h q (by simp [hq]))
theorem pure_sortP {K : PySem.W.Frag} : PureC (rSortP K) sortPD := by
  intro xs H L Q ds g live h he k
  unfold sortPD at he
  split at he
  · rename_i zs
    cases e1 : prsOf zs with
    | none => rw [e1] at he; cases he
    | some ps =>
      rw [e1] at he
      simp only [Option.bind_some] at he
      split at he
      · rename_i hl
        cases he
        obtain ⟨v, rfl, hv⟩ := Paired.one h
        obtain ⟨a, vs, rfl, ha, hs⟩ := hv.list
        rw [prsOf_eq e1] at hs
        refine ⟨a, vs, ps, rfl, ha, (hs.mono mask_same).dp, hl, fun p np => k _ _ (same_new np) (at_new live np ?_)⟩
        have hlen : vs.length = ps.length := by rw [hs.length, List.length_map]
        have e2 : (sortB leP ps).map encP = ((vs.zip ps).mergeSort fun x y => leP x.2 y.2).map fun b => encP b.2 := by
          have := List.map_mergeSort (r := fun x y : V × Int × Int => leP x.2 y.2) (s := leP) (f := fun b : V × Int × Int => b.2) (l := vs.zip ps) (fun _ _ _ _ => rfl)
          rw [List.map_snd_zip (by omega)] at this
          rw [sortB_eq leP_tr leP_to, ← this, List.map_map]
          rfl
        rw [e2]
        exact ats_fst _ fun b hb => ats_zip hs b ((List.mergeSort_perm _ _).mem_iff.mp hb)
      · cases he
  · cases he
end JL
/-! J33: sorted(xs, key=f), f a def that gives lists of ints. -/
namespace JL
open PySem PySem.Spec PyProof.Rows L2

/-! ### the sort, by what holds along the keys -/
section
variable {prog : Program} {w : World} {A : Around} {E : Value → Shared → Prop} {s : Shared} {vs : List Value} {kz : List PyData} {Q : Value → Shared → Prop}
theorem key_rest {f : Value} {a ks : Addr} {e1 : Nat} {P : PySem.Fin → Shared → Prop} (nk : s.heap.get? ks = some (seqObj "list" #[] 0)) (na : s.heap.get? a = some (seqObj "list" #[] e1)) (hka : ks ≠ a)
    (hlen : kz.length = vs.length) (hZ : vs.length ≤ sizeLine) (hal : PySem.W.AllAlike kz) (hsk : PySem.W.Sortable kz) (hu : ∀ d, d ∈ kz → A.units + d.depth < cLine)
    (J : Nat → List Value → Shared → Prop) (start : J 0 [] s)
    (turn : ∀ (i : Nat) (v : Value) (us : List Value) (s1 : Shared), vs[i]? = some v → J i us s1 → (∃ o, s1.heap.get? ks = some o) → (∃ o, s1.heap.get? a = some o) →
      wpAny (model prog w) A (call f [v]) (fun u s2 => (∀ o, s1.heap.get? ks = some o → s2.heap.get? ks = some o) ∧ (∀ o, s1.heap.get? a = some o → s2.heap.get? a = some o) ∧ J (i + 1) (us ++ [u]) { s2 with heap := s2.heap.update ks (Obj.mapSeq (·.push u)) }) (fun _ _ => False) s1)
    (read : ∀ (us : List Value) (s1 : Shared), J vs.length us s1 → PySem.W.EachIs (fun v k => ∃ as, Reads s1.heap v k as) us kz)
    (fin : ∀ (us : List Value) (s1 : Shared) (h' : Heap) (tk : Nat) (out : List Value) (c : Nat), J vs.length us s1 → (∀ b o, b ≠ a → b ≠ ks → s1.heap.get? b = some o → h'.get? b = some o) → h'.get? a = some (seqObj "list" out.toArray c) → PySem.W.KeyedOut false kz vs out → P (.done (.ret .none)) { s1 with heap := h', toks := tk }) :
    wpAny (model prog w) A (PyProof.Rows.ksk_rest a f false vs.toArray e1 (.ref ks)) P E s := by
  unfold PyProof.Rows.ksk_rest
  apply wpAny_bind
  apply wpAny_rule
  rw [List.forIn_toArray]
  apply wpAny_bind
  refine PyProof.Rows.ksk_fold (fun i s1 => ∃ (kA : Array Value) (e : Nat), J i kA.toList s1 ∧ s1.heap.get? ks = some (seqObj "list" kA e) ∧ s1.heap.get? a = some (seqObj "list" #[] e1) ∧ kA.size = i) vs 0 s ⟨#[], 0, start, nk, na, rfl⟩ ?one ?all
  case one =>
    rintro j x s1 hx ⟨kA, e, hJ, k1, k2, k3⟩
    rw [Nat.zero_add] at hJ k3 ⊢
    have hj : j < vs.length := (List.getElem?_eq_some_iff.mp hx).1
    apply wpAny_bind
    apply wpAny_attempt
    refine wpAny_mono (turn j x kA.toList s1 hx hJ ⟨_, k1⟩ ⟨_, k2⟩) (fun u s2 hq => ?_) fun _ _ z => z.elim
    obtain ⟨q1, q2, q3⟩ := hq
    have m1 := q1 _ k1
    have m2 := q2 _ k2
    dsimp only
    apply wpAny_bind
    refine listUpdate_at m1 rfl ?_ (by omega) (by rw [Array.size_push]; omega)
    obtain ⟨c2, hc2⟩ : ∃ c2, (s2.heap.update ks (Obj.mapSeq (·.push u))).get? ks = some (seqObj "list" (kA.push u) c2) := ⟨_, get?_update_seq m1 (·.push u)⟩
    refine wpAny_pure ⟨rfl, kA.push u, c2, ?_, hc2, ?_, by rw [Array.size_push]; omega⟩
    · have e2 : (kA.push u).toList = kA.toList ++ [u] := by simp
      rw [e2]
      exact q3
    · exact ((Heap.SameBut.update s2.heap ks (Obj.mapSeq (·.push u))).2 a hka.symm).trans m2
  case all =>
    rintro s1 ⟨kA, e, hJ, k1, k2, k3⟩
    rw [Nat.zero_add] at hJ k3
    have hr := read _ _ hJ
    apply wpAny_bind
    refine listItems_at k1 rfl ?_
    have hid := Heap.hide_self s1.heap ks
    refine PySem.W.keyH_end (κ := PySem.W.dataKind s1.heap kz) (h₁ := s1.heap.hide ks) (fun b o _ q => Heap.of_hide q) hid k1 k2 hka (PySem.W.SortsAt.data hr hal hsk hu) k3 hZ fun h3 tk3 c x1 x2 => ?_
    refine fin kA.toList s1 h3 tk3 _ c hJ (fun b o n1 n2 q => x1 b o n1 ((Heap.hide_ne s1.heap n2).trans q)) x2 ⟨s1.heap, kA.toList, hal, rfl, hr⟩
theorem key_sorted {l fa : Addr} (hl : s.heap.IsList l vs.toArray) (hlen : kz.length = vs.length) (hZ : vs.length ≤ sizeLine) (hal : PySem.W.AllAlike kz) (hsk : PySem.W.Sortable kz) (hu : ∀ d, d ∈ kz → A.units + 2 + d.depth < cLine)
    (J : Addr → Nat → List Value → Shared → Prop) (start : ∀ (h : Heap) (ks : Addr), (∀ b o, s.heap.get? b = some o → h.get? b = some o) → s.heap.objs.size + 1 < ks → J ks 0 [] { s with heap := h })
    (turn : ∀ (ks : Addr) (i : Nat) (v : Value) (us : List Value) (s1 : Shared), s.heap.objs.size + 1 < ks → vs[i]? = some v → J ks i us s1 → (∃ o, s1.heap.get? ks = some o) → (∃ o, s1.heap.get? (s.heap.objs.size + 1) = some o) →
      wpAny (model prog w) A.in1.in1 (call (.ref fa) [v]) (fun u s2 => (∀ o, s1.heap.get? ks = some o → s2.heap.get? ks = some o) ∧ (∀ o, s1.heap.get? (s.heap.objs.size + 1) = some o → s2.heap.get? (s.heap.objs.size + 1) = some o) ∧ J ks (i + 1) (us ++ [u]) { s2 with heap := s2.heap.update ks (Obj.mapSeq (·.push u)) }) (fun _ _ => False) s1)
    (read : ∀ (ks : Addr) (us : List Value) (s1 : Shared), J ks vs.length us s1 → PySem.W.EachIs (fun v k => ∃ as, Reads s1.heap v k as) us kz)
    (fin : ∀ (ks : Addr) (us : List Value) (s1 : Shared) (h' : Heap) (tk : Nat) (out : List Value) (c : Nat), s.heap.objs.size + 1 < ks → J ks vs.length us s1 → (∀ b o, b ≠ s.heap.objs.size + 1 → b ≠ ks → s1.heap.get? b = some o → h'.get? b = some o) → h'.get? (s.heap.objs.size + 1) = some (seqObj "list" out.toArray c) → PySem.W.KeyedOut false kz vs out → Q (.ref (s.heap.objs.size + 1)) { s1 with heap := h', toks := tk }) :
    wpAny (model prog w) A (call (.builtin "sorted") [.ref l] [(Str.ofString "key", .ref fa)]) Q E s := by
  apply PySem.W.sorted_of_sort hl hZ (PyProof.Rows.ksk_s1 _ _)
  · exact fun _ => PyProof.Rows.ksk_l1 _ _
  intro E'
  rw [PyProof.Rows.ksk_t1]
  have ho := PySem.W.copyHeap_at s.heap vs
  have hlt : s.heap.objs.size + 1 < (PySem.W.copyHeap s.heap vs).objs.size := Heap.lt_size ho
  unfold PyProof.Rows.ksk_tree
  apply wpAny_bind
  refine listItems_at ho rfl ?_
  apply wpAny_bind
  refine listUpdate_at ho rfl ?_ (by rw [List.size_toArray]; exact hZ) (Nat.zero_le _)
  obtain ⟨e1, ho1⟩ : ∃ e1, ((PySem.W.copyHeap s.heap vs).update (s.heap.objs.size + 1) (Obj.mapSeq fun _ => (#[] : Array Value))).get? (s.heap.objs.size + 1) = some (seqObj "list" #[] e1) := ⟨_, get?_update_seq ho fun _ => #[]⟩
  apply wpAny_bind
  refine seqEpoch_at ho1 rfl ?_
  apply wpAny_bind
  apply wpAny_newTuple ?_ (by show vs.length ≤ _; exact hZ)
  apply wpAny_bind
  apply wpAny_newList ?_ (Nat.zero_le _)
  apply wpAny_holding
  obtain ⟨g, hgd⟩ : ∃ g, g = ((PySem.W.copyHeap s.heap vs).update (s.heap.objs.size + 1) (Obj.mapSeq fun _ => (#[] : Array Value))).push (seqObj "tuple" vs.toArray 0) := ⟨_, rfl⟩
  have hgs : s.heap.objs.size + 1 < g.objs.size := by
    rw [hgd, Heap.size_push, Heap.size_update]
    omega
  have old : ∀ b o, s.heap.get? b = some o → (g.push (seqObj "list" #[] 0)).get? b = some o := fun b o q => by
    have hb := Heap.lt_size q
    rw [hgd]
    exact PySem.W.sortingHeap_old (Nat.ne_of_lt (Nat.lt_succ_of_lt hb)) (PySem.W.copyHeap_old q)
  show wpAny (model prog w) A.in1.in1 (PyProof.Rows.ksk_rest (s.heap.objs.size + 1) (.ref fa) false vs.toArray e1 (.ref (((PySem.W.copyHeap s.heap vs).update (s.heap.objs.size + 1) (Obj.mapSeq fun _ => (#[] : Array Value))).push (seqObj "tuple" vs.toArray 0)).objs.size)) _ _ { s with heap := (((PySem.W.copyHeap s.heap vs).update (s.heap.objs.size + 1) (Obj.mapSeq fun _ => (#[] : Array Value))).push (seqObj "tuple" vs.toArray 0)).push (seqObj "list" #[] 0) }
  have na : (g.push (seqObj "list" #[] 0)).get? (s.heap.objs.size + 1) = some (seqObj "list" #[] e1) := by
    rw [hgd]
    exact Heap.get?_push_of_some _ (Heap.get?_push_of_some _ ho1)
  rw [← hgd]
  refine key_rest (s := { s with heap := g.push (seqObj "list" #[] 0) }) (ks := g.objs.size) (Heap.get?_push_size _ rfl) na (Nat.ne_of_gt hgs) hlen hZ hal hsk hu (J g.objs.size) (start _ _ old hgs) (fun i v us s1 h1 h2 h3 h4 => turn _ i v us s1 hgs h1 h2 h3 h4) (fun us s1 h => read _ us s1 h) ?_
  intro us s1 h' tk out c h1 h2 h3 h4
  exact ⟨rfl, fin _ us s1 h' tk out c hgs h1 h2 h3 h4⟩
end
end JL
/-! J34: sorted(xs, key=f) of the J layer. -/
namespace JL
open PySem PySem.Spec PyProof.Rows L2

/-! ### objects that are new since the entry -/
structure NewA (X : Cx) (pins : List (Addr × Obj)) (k : Addr) : Prop where
  n0 : X.s_0.heap.get? k = none
  nl : k ≠ X.env.locals
  nc : ∀ y c, X.env.cells.lookup y = some c → c ≠ k
  np : ∀ p ∈ X.pn ++ pins, p.1 ≠ k
  nf : k ∉ frs X.stack
section
variable {X : Cx} {pins : List (Addr × Obj)} {σ : L2.St} {H : Hp} {s : Shared}
theorem newA_of (I : Inv X pins σ H s) {k : Addr} (h : s.heap.objs.size ≤ k) : NewA X pins k where
  n0 := Heap.get?_none_of_le (Nat.le_trans I.sz h)
  nl := fun z => by
    have := I.lt
    rw [← z] at this
    exact Nat.lt_irrefl _ (Nat.lt_of_lt_of_le this h)
  nc := fun y c e z => by
    obtain ⟨v, o, ho, _⟩ := I.cell y c e
    have := Heap.lt_size ho
    rw [z] at this
    exact Nat.lt_irrefl _ (Nat.lt_of_lt_of_le this h)
  np := fun p hp z => by
    have := Heap.lt_size (I.pin p hp).1
    rw [z] at this
    exact Nat.lt_irrefl _ (Nat.lt_of_lt_of_le this h)
  nf := fun z => by
    rcases List.mem_cons.mp (I.stkSub _ z) with e | e
    · have := I.lt
      rw [← e] at this
      exact Nat.lt_irrefl _ (Nat.lt_of_lt_of_le this h)
    · exact I.nofs h e
/-- new things that no word speaks of are changed -/
theorem Inv.redo {S : List Addr} {h' : Heap} {t : Nat} (I : Inv X pins σ H s) (hS : ∀ k ∈ S, NewA X pins k) (hH : ∀ k ∈ S, H k = none) (kp : ∀ b o, b ∉ S → s.heap.get? b = some o → h'.get? b = some o) : Inv X pins σ H { s with heap := h', toks := t } where
  ok := I.ok
  os := I.os
  bare := I.bare
  base := {
    keep := fun b o e n h1 h2 => kp b o (fun z => by rw [(hS b z).n0] at e; cases e) (I.base.keep b o e n h1 h2)
    slot := fun b o e n h1 h2 => by
      obtain ⟨sl, q⟩ := I.base.slot b o e n h1 h2
      exact ⟨sl, kp b _ (fun z => by rw [(hS b z).n0] at e; cases e) q⟩
    free := I.base.free
    there := fun b o e h1 => by
      obtain ⟨o', q⟩ := I.base.there b o e h1
      exact ⟨o', kp b o' (fun z => by rw [(hS b z).n0] at e; cases e) q⟩
    tups := I.base.tups
    frzs := I.base.frzs
    tbls := I.base.tbls }
  loc := by
    obtain ⟨m, ⟨o, es, ep, e, r⟩, hl⟩ := I.loc
    refine ⟨m, ⟨o, es, ep, kp _ o (fun z => (hS _ z).nl rfl) e, r⟩, fun i x v e1 e2 e3 => ?_⟩
    obtain ⟨u, ru, lk⟩ := hl i x v e1 e2 e3
    refine ⟨u, ru, ?_⟩
    rcases lk with lk | ⟨k1, c, k2, oc, k3, k4⟩
    · exact .inl lk
    · exact .inr ⟨k1, c, k2, oc, kp _ _ (fun z => (hS _ z).nc _ _ k2 rfl) k3, k4⟩
  cell := fun x c e => by
    obtain ⟨v, o, q, r⟩ := I.cell x c e
    exact ⟨v, o, kp _ _ (fun z => (hS _ z).nc _ _ e rfl) q, r⟩
  free := I.free
  freeC := I.freeC
  pin := fun p hp => by
    obtain ⟨h1, h2⟩ := I.pin p hp
    exact ⟨kp _ _ (fun z => (hS _ z).np p hp rfl) h1, h2⟩
  hok := fun b u e => (I.hok b u e).stay (fun c v hc q => kp c v (fun z => by
    have n := hH c z
    rcases hc with rfl | hc
    · rw [n] at e; cases e
    · rw [n] at hc; cases hc) q) (fun c q => q) fun c xs q => q
  len := I.len
/-- a new thing becomes known -/
theorem Inv.take {a : Addr} {o : HO} (I : Inv X pins σ H s) (na : NewA X pins a) (hn : H a = none) (ok : ObjOk X.prog X.w (upd H a o) s.heap a o) : Inv X pins σ (upd H a o) s where
  ok := I.ok
  os := I.os
  bare := I.bare
  base := {
    keep := I.base.keep
    slot := I.base.slot
    free := fun b ob e n x => by
      rw [upd_ne (fun z => by rw [z, na.n0] at e; cases e)]
      exact I.base.free b ob e n x
    there := I.base.there
    tups := fun b xs e => by
      have e1 := I.base.tups b xs e
      rw [upd_ne (fun z => by rw [z, hn] at e1; cases e1)]
      exact e1
    frzs := fun b ob u e => by
      have e1 := I.base.frzs b ob u e
      rw [upd_ne (fun z => by rw [z, hn] at e1; cases e1)]
      exact e1
    tbls := fun b ps e => by
      obtain ⟨more, e1⟩ := I.base.tbls b ps e
      exact ⟨more, by rw [upd_ne (fun z => by rw [z, hn] at e1; cases e1)]; exact e1⟩ }
  loc := I.loc
  cell := I.cell
  free := by rw [upd_ne (Ne.symm na.nl)]; exact I.free
  freeC := fun x c e => by rw [upd_ne (na.nc x c e)]; exact I.freeC x c e
  pin := fun p hp => by
    obtain ⟨h1, h2, h3⟩ := I.pin p hp
    exact ⟨h1, by rw [upd_ne (na.np p hp)]; exact h2, h3⟩
  hok := fun b u e => by
    by_cases z : b = a
    · subst z
      rw [upd_same] at e
      cases e
      exact ok
    · rw [upd_ne z] at e
      exact (I.hok b u e).stay (fun c v _ q => q) (fun c q => by rw [upd_ne (fun y => by rw [y, hn] at q; cases q)]; exact q) (fun c xs q => by rw [upd_ne (fun y => by rw [y, hn] at q; cases q)]; exact q)
  len := I.len
end

/-! ### the plain side -/
def keysM (F : FS) : List PyData → List GO → Option (List PyData × List GO)
  | [], gs => some ([], gs)
  | d :: r, gs => match F [.dat d] gs with
    | .ok (.dat k) gs1 => (keysM F r gs1).bind fun p => some (k :: p.1, p.2)
    | _ => none
def rowsOf : List PyData → Option (List (List Int))
  | [] => some []
  | .list ds :: r => (intsOf ds).bind fun ns => (rowsOf r).bind fun rs => some (ns :: rs)
  | _ :: _ => none
theorem rowsOf_eq : ∀ {ks : List PyData} {rs : List (List Int)}, rowsOf ks = some rs → ks = rs.map fun ns => .list (ns.map .int)
  | [], rs, h => by cases h; rfl
  | k :: r, rs, h => by
    cases k with
    | none => cases h
    | bool b => cases h
    | int b => cases h
    | str b => cases h
    | tuple b => cases h
    | dict b => cases h
    | list ds =>
      rw [rowsOf] at h
      cases e1 : intsOf ds with
      | none => rw [e1] at h; cases h
      | some ns =>
        cases e2 : rowsOf r with
        | none => rw [e1, e2] at h; cases h
        | some qs =>
          rw [e1, e2] at h
          cases h
          rw [List.map_cons, ← rowsOf_eq e2, intsOf_eq e1]
def byRows (ds : List PyData) (rs : List (List Int)) : List PyData := (sortB (fun x y => decide (x.2 ≤ y.2)) (ds.zip rs)).map (·.1)
theorem byRows_eq (ds : List PyData) (rs : List (List Int)) : byRows ds rs = ((ds.zip rs).mergeSort fun x y => decide (x.2 ≤ y.2)).map (·.1) := by
  unfold byRows
  rw [sortB_eq (leRow_tr (fun x : PyData × List Int => x.2)) (leRow_to (fun x : PyData × List Int => x.2))]
def mSortKey (F : FS) (mr : M (List RV)) (st0 : ST) : R RV := (mr.bind fun r => fun st => match r with
  | [a] => (match st.look a with
    | some (.list ds) => (match keysM F ds st.gs with
      | some (ks, gs') => (match rowsOf ks with
        | some rs => if ds.length ≤ 1000 then .ok (.dat (.list (byRows ds rs))) { st with gs := gs' } else .stuck
        | none => .stuck)
      | none => .stuck)
    | _ => .stuck)
  | _ => .stuck) st0
theorem keysM_len {F : FS} : ∀ {ds : List PyData} {gs gs' : List GO} {ks : List PyData}, keysM F ds gs = some (ks, gs') → ks.length = ds.length
  | [], gs, gs', ks, h => by cases h; rfl
  | d :: r, gs, gs', ks, h => by
    rw [keysM] at h
    split at h
    · rename_i k gs1 e1
      cases e2 : keysM F r gs1 with
      | none => rw [e2] at h; cases h
      | some p =>
        rw [e2] at h
        cases h
        rw [List.length_cons, List.length_cons, keysM_len (ks := p.1) (gs' := p.2) e2]
    · cases h
/-- the i-th key -/
theorem keysM_at {F : FS} : ∀ {ds : List PyData} {gs gs' : List GO} {ks : List PyData}, keysM F ds gs = some (ks, gs') → ∀ i, i < ds.length → ∃ d k g1 g2, ds[i]? = some d ∧ ks[i]? = some k ∧ keysM F (ds.take i) gs = some (ks.take i, g1) ∧ F [.dat d] g1 = .ok (.dat k) g2 ∧ keysM F (ds.take (i + 1)) gs = some (ks.take (i + 1), g2)
  | [], gs, gs', ks, h, i, hi => by simp at hi
  | d :: r, gs, gs', ks, h, i, hi => by
    rw [keysM] at h
    split at h
    · rename_i k gs1 e1
      cases e2 : keysM F r gs1 with
      | none => rw [e2] at h; cases h
      | some p =>
        rw [e2] at h
        cases h
        cases i with
        | zero => exact ⟨d, k, gs, gs1, rfl, rfl, rfl, e1, by simp [keysM, e1]⟩
        | succ i =>
          obtain ⟨d', k', g1, g2, a1, a2, a3, a4, a5⟩ := keysM_at (ks := p.1) (gs' := p.2) e2 i (by simpa using hi)
          exact ⟨d', k', g1, g2, a1, a2, by simp [keysM, e1, a3], a4, by simp [keysM, e1, a5]⟩
    · cases h
theorem vals_eachG {β : Type} : ∀ {vs : List V} {us : List Value} {ds : List β}, Vals vs us → vs.length = ds.length → PySem.W.EachIs (fun (u : Value) (p : V × β) => RelV p.1 u ∧ p ∈ vs.zip ds) us (vs.zip ds) := by
  intro vs us ds r hl
  have gen : ∀ (vs : List V) (us : List Value) (ds : List β) (all : List (V × β)), Vals vs us → vs.length = ds.length → (∀ p ∈ vs.zip ds, p ∈ all) → PySem.W.EachIs (fun (u : Value) (p : V × β) => RelV p.1 u ∧ p ∈ all) us (vs.zip ds) := by
    intro vs
    induction vs with
    | nil => intro us ds all r hl hm; cases r; exact .nil
    | cons v vs ih =>
      intro us ds all r hl hm
      cases r with
      | cons h t =>
        cases ds with
        | nil => simp at hl
        | cons d ds => exact .cons ⟨h, hm _ (by simp)⟩ (ih _ ds all t (by simpa using hl) fun p hp => hm p (by simp [hp]))
  exact gen vs us ds _ r hl fun p h => h
theorem each_valsG {β : Type} : ∀ {us : List Value} {l : List (V × β)} {T : V × β → Prop}, PySem.W.EachIs (fun (u : Value) (p : V × β) => RelV p.1 u ∧ T p) us l → Vals (l.map (·.1)) us
  | _, _, _, .nil => .nil
  | _, _, _, .cons h r => .cons h.1 (each_valsG r)
theorem ats_zip3 {F : Hp} {β : Type} : ∀ {ws : List V} {ds : List PyData} {rs : List β}, Ats F ws ds → ∀ b ∈ ws.zip (ds.zip rs), At F b.1 b.2.1
  | _, _, [], .nil, b, h => by simp at h
  | _, _, _ :: _, .nil, b, h => by simp at h
  | _, _, [], .cons _ _, b, h => by simp at h
  | _, _, r :: rs, .cons h t, b, m => by
    rw [List.zip_cons_cons, List.zip_cons_cons] at m
    rcases List.mem_cons.mp m with rfl | m
    · exact h
    · exact ats_zip3 t b m
theorem ats_fst3 {F : Hp} {β : Type} : ∀ (l : List (V × PyData × β)), (∀ b ∈ l, At F b.1 b.2.1) → Ats F (l.map (·.1)) (l.map fun b => b.2.1)
  | [], _ => .nil
  | b :: l, h => .cons (h b (by simp)) (ats_fst3 l fun q hq => h q (by simp [hq]))
theorem ats_reads {X : Cx} {pins : List (Addr × Obj)} {σ : L2.St} {H F : Hp} {s : Shared} (I : Inv X pins σ H s) (sm : Same F H) : ∀ {ws : List V} {us : List Value} {ks : List PyData}, Vals ws us → Ats F ws ks → PySem.W.EachIs (fun v k => ∃ as, Reads s.heap v k as) us ks
  | _, _, _, .nil, .nil => .nil
  | _, _, _, .cons r t, .cons h e => .cons (Dp.reads I _ _ _ (h.mono sm).dp r) (ats_reads I sm t e)
section
variable {X : Cx} {N : Ent} {W : WX} {a : Expr} {mr : M (List RV)} {pos : Pos}
theorem je_sortKey {cls : Cl} {k : Nat} {x xp : Str} {f : Addr} {fd : FuncData} {F : FS} {p p1 kp : Pos} (G : FnOk X.prog X.w X.K X.mg X.base (L2.CX X.prog X.w) k f fd [xp] (spF cls 1 F)) (hcls : N.cls = cls) (hr : Room (k + 1) X.A)
    (hm : X.mg "sorted" = none) (hmf : X.mg x = some (.ref f)) (hb : Binds X.K fd [xp] []) (ha : JA X N W [a] mr) (hg : Gl X "sorted" := by rfl) (hgf : Gl X x := by rfl) (hdb : (x == ("__debug__" : Str)) = false := by decide)
    (he : backTo pos (starEach [a] X.env) = (false, eval a X.env) :: backTo pos (starEach [] X.env) := by rfl) (hpl : (backTo pos (starEach [a] X.env)).any (·.1) = false := by rfl) :
    JE X N W (.Call (.Name "sorted" p) [a] [⟨some "key", .Name x p1, kp⟩] pos) (mSortKey F mr) := by
  subst hcls
  refine ⟨fun pins s σ H Q I h => ?_⟩
  obtain ⟨L, as1, st, rel, h⟩ := h
  refine wpAny_Call_Name_kw (ld_blt I hg hm boot_sorted ?_)
  refine PyProof.Rows.callWith_kw (thn (ha.run pos pins s σ H _ I (fin_bind (P1 := VRels) rel h)) fun us s1 ⟨vs, H1, I1, r1, L3, as3, s3, rs, r3, v3, x3, f3⟩ => ?_) he hpl rfl rfl
  cases v3 with
  | nil => exact f3.elim
  | @cons v vs' rv rs' hv ht =>
    cases ht with
    | cons _ _ => exact f3.elim
    | nil =>
      obtain ⟨u, rfl, ru⟩ := vals1 r1
      dsimp only at f3
      cases e2 : s3.look rv with
      | none => rw [e2] at f3; exact f3.elim
      | some d =>
        rw [e2] at f3
        cases d with
        | none => exact f3.elim
        | bool b => exact f3.elim
        | int b => exact f3.elim
        | dict b => exact f3.elim
        | tuple b => exact f3.elim
        | str b => exact f3.elim
        | list ds =>
          dsimp only at f3
          cases e3 : keysM F ds s3.gs with
          | none => rw [e3] at f3; exact f3.elim
          | some pk =>
            obtain ⟨ks, gs'⟩ := pk
            rw [e3] at f3
            dsimp only at f3
            cases e4 : rowsOf ks with
            | none => rw [e4] at f3; exact f3.elim
            | some rws =>
              rw [e4] at f3
              dsimp only at f3
              by_cases hlen : ds.length ≤ 1000
              · rw [if_pos hlen] at f3
                obtain ⟨l, ws, rfl, hl, hs⟩ := (r3.look hv e2).list
                cases ru
                have hks := rowsOf_eq e4
                have hkl := keysM_len e3
                have hrl : rws.length = ds.length := by rw [← hkl, hks, List.length_map]
                have hwl := hs.length
                obtain ⟨its, rvs, pl, hz⟩ := I1.list (SqL.of hl)
                have hil : its.length = ds.length := by rw [← rvs.length, hwl]
                show wpAny (model X.prog X.w) X.A (evalAll ((do let v ← eval (.Name x p1) X.env; standAt pos; pure v) :: [])) _ _ s1
                refine wpAny_evalAll_cons (wpAny_bind (ld_glob I1 hgf hmf ?_ hdb))
                refine wpAny_bind (wpAny_standAt (wpAny_pure (wpAny_evalAll_nil ?_)))
                show wpAny (model X.prog X.w) X.A (call (.builtin "sorted") [.ref l] [(Str.ofString "key", .ref f)]) (EP X pins σ Q) X.xe s1
                have hun := hr.un
                have nA := newA_of I1 (k := s1.heap.objs.size + 1) (Nat.le_succ _)
                refine key_sorted (vs := its) (kz := ks) pl.isList (by omega) ?_ ?_ ?_ ?_ (fun kS i us s' => NewA X pins kS ∧ ∃ L' as' H' g, Inv X pins σ H' s' ∧ keysM F (ds.take i) s3.gs = some (ks.take i, g) ∧ Rel N L' as' { s3 with gs := g } σ H' ∧ Ext L3 as3 H1 L' as' H' ∧ H' kS = none ∧ H' (s1.heap.objs.size + 1) = none ∧ ∃ wk, Vals wk us ∧ Ats (mask H' L') wk (ks.take i)) ?start ?turn ?read ?fin
                · rw [hil]
                  exact Nat.le_of_lt (small1000 hlen)
                · rw [hks]
                  exact PySem.W.AllAlike.of fun _ _ => alike_ilist _ _
                · rw [hks]
                  exact PySem.W.Sortable.others fun _ => ⟨(fun z => nomatch z), fun _ z => nomatch z⟩
                · intro d hd
                  rw [hks] at hd
                  obtain ⟨ns, _, rfl⟩ := List.mem_map.mp hd
                  have := depth_ilist ns
                  omega
                case start =>
                  intro h4 kS old lt
                  have z1 : H1 kS = none := I1.hok.fresh (by omega)
                  have z2 : H1 (s1.heap.objs.size + 1) = none := I1.hok.fresh (Nat.le_succ _)
                  exact ⟨newA_of I1 (by omega), L3, as3, H1, s3.gs, I1.kept (t' := s1.toks) old, by simp [keysM], r3, .refl, z1, z2, [], .nil, by rw [List.take_zero]; exact .nil⟩
                case turn =>
                  rintro kS i v us s' lt hv' ⟨nk, L', as', H', g, I', km, r', x', z1, z2, wk, vk, ak⟩ ⟨ok, gk⟩ ⟨oa, ga⟩
                  have hi : i < its.length := (List.getElem?_eq_some_iff.mp hv').1
                  obtain ⟨d, kd, g1, g2, a1, a2, a3, a4, a5⟩ := keysM_at e3 i (by omega)
                  rw [km] at a3
                  cases a3
                  obtain ⟨wv, b1, b2⟩ := hs.get a1
                  obtain ⟨v2, b3, b4⟩ := rvs.get b1
                  rw [hv'] at b3
                  cases b3
                  have b5 := b2.mono x'.dat
                  have e0 := I'.env0
                  have e1 : Env0 X.prog X.w X.K X.mg X.base X.A.in1.in1 X.stack s' H' := ⟨e0.frames, e0.mod, e0.bs, e0.bsz, e0.funs, e0.frf, e0.hok, e0.bare⟩
                  have hr2 : Room k X.A.in1.in1 := by
                    refine ⟨hr.hd, ?_, ?_⟩
                    · have := hr.dp
                      show X.A.depth + 3 * k + 5 < _
                      omega
                    · show X.A.units + 1 + 1 + 16 * k + 200 < _
                      omega
                  have hb1 : BindsTo s' fd ⟨[v], []⟩ ([xp].zip [v]) := hb s' [v] I'.kIn rfl
                  have hsp : spF N.cls 1 F [wv] H' (fun v H2 => ∃ L2 as2, Stp as' L' H' as2 L2 H2 ∧ GRel N.cls L2 as2 g2 H2 ∧ At (mask H2 L2) v kd) (fun _ _ _ => False) := by
                    refine ⟨rfl, as', L', [.dat d], g, ⟨r'.live, r'.nt⟩, .cons b5 .nil, r'.g, ?_⟩
                    rw [a4]
                    exact fun v H2 L2 as2 q1 q2 q3 => ⟨L2, as2, q1, q2, q3⟩
                  have rc := G.run X.A.in1.in1 X.stack s' H' ⟨[v], []⟩ [v] [wv] _ _ hr2 e1 hb1 (.cons b4 .nil) hsp
                  refine wpAny_call (codeAny_mono rc fun r s2 hq => ?_)
                  cases r with
                  | error e =>
                    obtain ⟨_, _, _, _, _, _, _, _, _, _, _, _, z⟩ := hq
                    exact z.elim
                  | ok fl =>
                    cases fl with
                    | next => exact False.elim hq
                    | brk => exact False.elim hq
                    | cont => exact False.elim hq
                    | ret u =>
                      obtain ⟨vr, H2, os, bare, un, hok, rr, L2, as2, q1, q2, q3⟩ := hq
                      have keep : ∀ (b : Addr), NewA X pins b → H' b = none → ∀ o, s'.heap.get? b = some o → s2.heap.get? b = some o := fun b nb n o e => un.keep b o e n nb.nf (by simp)
                      have none2 : ∀ (b : Addr), H' b = none → (∃ o, s'.heap.get? b = some o) → H2 b = none := fun b n ⟨o, e⟩ => un.free b o e n (by simp)
                      obtain ⟨vr2, H3, I3, rr2, z3, z4⟩ := I'.after (Q := fun v2 H3 => v2 = vr ∧ H3 = H2) ⟨vr, H2, os, bare, un, hok, rr, rfl, rfl⟩
                      subst z3; subst z4
                      obtain ⟨r5, x5⟩ := r'.after q1 q2
                      have z5 := none2 kS z1 ⟨ok, gk⟩
                      have z6 := none2 _ z2 ⟨oa, ga⟩
                      refine ⟨keep kS nk z1, keep _ nA z2, nk, L2, as2, H3, g2, ?_, a5, r5, x'.trans x5, z5, z6, wk ++ [vr2], ?_, ?_⟩
                      · refine Inv.redo (S := [kS]) (t := s2.toks) I3 (fun b hb => by rw [List.mem_singleton.mp hb]; exact nk) (fun b hb => by rw [List.mem_singleton.mp hb]; exact z5) fun b o hb e => ?_
                        have nb : b ≠ kS := fun z => hb (by simp [z])
                        exact ((Heap.SameBut.update s2.heap kS (Obj.mapSeq (·.push u))).2 b nb).trans e
                      · exact Paired.snoc vk rr2
                      · have et : ks.take (i + 1) = ks.take i ++ [kd] := by rw [List.take_add_one, a2]; simp
                        rw [et]
                        exact (ak.mono x5.dat).append (Ats.one q3)
                case read =>
                  rintro kS us s' ⟨nk, L', as', H', g, I', km, r', x', z1, z2, wk, vk, ak⟩
                  have et : ks.take its.length = ks := List.take_of_length_le (by omega)
                  rw [et] at ak
                  exact ats_reads I' mask_same vk ak
                case fin =>
                  rintro kS us s' h5 tk5 out c5 lt ⟨nk, L', as', H', g, I', km, r', x', z1, z2, wk, vk, ak⟩ kp5 o5 ko
                  have et : ds.take its.length = ds := List.take_of_length_le (by omega)
                  have et2 : ks.take its.length = ks := List.take_of_length_le (by omega)
                  rw [et, et2, e3] at km
                  cases km
                  have hz3 : ws.length = (ds.zip rws).length := by rw [List.length_zip]; omega
                  have hE := vals_eachG (ds := ds.zip rws) rvs hz3
                  have hkz : ks = (ws.zip (ds.zip rws)).map fun b => PyData.list (b.2.2.map .int) := by
                    have m1 : (ws.zip (ds.zip rws)).map (fun b => b.2) = ds.zip rws := List.map_snd_zip (by omega)
                    have m2 : (ds.zip rws).map (fun b => b.2) = rws := List.map_snd_zip (by omega)
                    have : (ws.zip (ds.zip rws)).map (fun b => PyData.list (b.2.2.map .int)) = (((ws.zip (ds.zip rws)).map (fun b => b.2)).map (fun b => b.2)).map fun ns => PyData.list (ns.map .int) := by
                      rw [List.map_map, List.map_map]
                      rfl
                    rw [this, m1, m2]
                    exact hks
                  rw [hkz] at ko
                  have he5 := PySem.W.keyedOut_each (fun b : V × PyData × List Int => PyData.list (b.2.2.map .int)) ko hE
                  rw [PySem.W.dataLe_rows] at he5
                  obtain ⟨srt, hsd⟩ : ∃ srt, srt = (ws.zip (ds.zip rws)).mergeSort (fun p q => decide (p.2.2 ≤ q.2.2)) := ⟨_, rfl⟩
                  rw [← hsd] at he5
                  have hmem : ∀ b ∈ srt, b ∈ ws.zip (ds.zip rws) := fun b hb => by
                    rw [hsd] at hb
                    exact (List.mergeSort_perm _ _).mem_iff.mp hb
                  have hd5 : srt.map (fun b => b.2.1) = byRows ds rws := by
                    have m1 : (ws.zip (ds.zip rws)).map (fun b => b.2) = ds.zip rws := List.map_snd_zip (by omega)
                    have m3 := List.map_mergeSort (r := fun p q : V × PyData × List Int => decide (p.2.2 ≤ q.2.2)) (s := fun x y : PyData × List Int => decide (x.2 ≤ y.2)) (f := fun b => b.2) (l := ws.zip (ds.zip rws)) (fun _ _ _ _ => rfl)
                    rw [m1, ← hsd] at m3
                    rw [byRows_eq]
                    rw [← m3, List.map_map]
                    rfl
                  have hats : Ats (mask H' L') (srt.map (·.1)) (byRows ds rws) := by
                    rw [← hd5]
                    exact ats_fst3 _ fun b hb => ats_zip3 (hs.mono x'.dat) b (hmem b hb)
                  have I6 : Inv X pins σ H' { s' with heap := h5, toks := tk5 } := by
                    refine Inv.redo (S := [s1.heap.objs.size + 1, kS]) I' (fun b hb => ?_) (fun b hb => ?_) fun b o hb e => ?_
                    · rcases List.mem_cons.mp hb with rfl | hb
                      · exact nA
                      · rw [List.mem_singleton.mp hb]; exact nk
                    · rcases List.mem_cons.mp hb with rfl | hb
                      · exact z2
                      · rw [List.mem_singleton.mp hb]; exact z1
                    · exact kp5 b o (fun z => hb (by simp [z])) (fun z => hb (by simp [z])) e
                  have hsl : (srt.map (·.1)).length ≤ sizeLine := by
                    rw [List.length_map, hsd, (List.mergeSort_perm _ _).length_eq, List.length_zip]
                    exact Nat.le_of_lt (small1000 (by omega))
                  have I7 := Inv.take (o := .lst (srt.map (·.1))) I6 nA z2 ⟨hsl, out, c5, each_valsG he5, o5⟩
                  exact ⟨.ref _, _, I7, rfl, fin_alloc r' (f3.from x') z2 fun H' e sm => .lst e (hats.mono sm)⟩
              · rw [if_neg hlen] at f3
                exact f3.elim
end
end JL
/-! J35: sorted of lists of ints. -/
namespace JL
open PySem PySem.Spec PyProof.Rows L2
def encR (ns : List Int) : PyData := .list (ns.map .int)
theorem rowsOf_map : ∀ rs : List (List Int), rowsOf (rs.map encR) = some rs
  | [] => rfl
  | r :: rs => by
    rw [List.map_cons, encR, rowsOf, intsOf_map, rowsOf_map rs]
    rfl
def leR (a b : List Int) : Bool := decide (a ≤ b)
@[simp] def sortRD : List PyData → Option PyData
  | [.list zs] => (rowsOf zs).bind fun rs => if rs.length ≤ 1000 then some (.list ((sortB leR rs).map encR)) else none
  | _ => none
def rSortR (K : PySem.W.Frag) : List V → Hp → VK → Prop := fun vs H Q => ∃ (a : Addr) (ws : List V) (rs : List (List Int)), vs = [.ref a] ∧ H a = some (.lst ws) ∧ DpAll K H ws (rs.map encR) ∧ rs.length ≤ 1000 ∧
  ∀ p, H p = none → Q (.ref p) (upd H p (.lst (((ws.zip rs).mergeSort fun x y => leR x.2 y.2).map (·.1))))
theorem each_dpR {K : PySem.W.Frag} {H : Hp} : ∀ {ws : List V} {us : List Value} {rs : List (List Int)}, Vals ws us → DpAll K H ws (rs.map encR) → PySem.W.EachIs (fun (u : Value) (b : V × List Int) => RelV b.1 u ∧ Dp K H b.1 (encR b.2)) us (ws.zip rs)
  | _, _, [], .nil, .nil => .nil
  | _, _, r :: rs, .cons h t, .cons d e => .cons ⟨h, d⟩ (each_dpR t e)
section
variable {X : Cx}
theorem cr_sortR (hu : X.A.units + 65 < cLine) : CallR X (.builtin "sorted") (rSortR X.K) := by
  intro pins s σ H vs us Q I r h
  obtain ⟨a, ws, rs, rfl, ha, hd, hl, q⟩ := h
  obtain ⟨its, rv, pl, hz⟩ := I.list (SqL.of ha)
  rw [Vals.ref1 r]
  have hlen : ws.length = rs.length := by rw [dpAll_len hd, List.length_map]
  have e := each_dpR rv hd
  refine PySem.W.sorted_data (bs := ws.zip rs) (enc := fun b : V × List Int => encR b.2) pl.isList e (e.mono fun u b hb => Dp.reads I _ b.1 u hb.2 hb.1) (PySem.W.AllAlike.of fun _ _ => alike_ilist _ _) (PySem.W.Sortable.others fun _ => ⟨(fun z => nomatch z), fun _ z => nomatch z⟩) ?_ (fun b _ => ?_) fun out h1 h2 => ?_
  · have : (ws.zip rs).length ≤ 1000 := by rw [List.length_zip]; omega
    exact Nat.le_of_lt (small1000 this)
  · have := depth_ilist b.2
    unfold encR
    omega
  have ele : PySem.W.dataLe false (fun b : V × List Int => encR b.2) = fun x y => leR x.2 y.2 := PySem.W.dataLe_rows fun b : V × List Int => b.2
  rw [ele] at h2
  obtain ⟨ep, he'⟩ := PyProof.Rows.sortedAll_at s.heap its out.toArray
  have hlen2 : (((ws.zip rs).mergeSort fun x y => leR x.2 y.2).map (·.1)).length ≤ sizeLine := by
    rw [List.length_map, (List.mergeSort_perm _ _).length_eq, List.length_zip]
    exact Nat.le_of_lt (small1000 (by omega))
  exact ⟨.ref _, upd H (s.heap.objs.size + 1) (.lst (((ws.zip rs).mergeSort fun x y => leR x.2 y.2).map (·.1))), I.laid (t' := s.toks) (fun _ _ => PyProof.Rows.sortedAll_old) (Nat.le_succ _) ⟨hlen2, out, ep, each_valsG h2, he'⟩, rfl, q _ (I.hok.fresh (Nat.le_succ _))⟩
end
theorem ats_zipR {F : Hp} : ∀ {ws : List V} {rs : List (List Int)}, Ats F ws (rs.map encR) → ∀ b ∈ ws.zip rs, At F b.1 (encR b.2)
  | _, [], .nil, b, h => by simp at h
  | _, r :: rs, .cons h t, b, m => by
    rw [List.zip_cons_cons] at m
    rcases List.mem_cons.mp m with rfl | m
    · exact h
    · exact ats_zipR t b m
theorem ats_fstR {F : Hp} : ∀ (l : List (V × List Int)), (∀ b ∈ l, At F b.1 (encR b.2)) → Ats F (l.map (·.1)) (l.map fun b => encR b.2)
  | [], _ => .nil
  | b :: l, h => .cons (h b (by simp)) (ats_fstR l fun q hq => h q (by simp [hq]))
theorem pure_sortR {K : PySem.W.Frag} : PureC (rSortR K) sortRD := by
  intro xs H L Q ds g live h he k
  unfold sortRD at he
  split at he
  · rename_i zs
    cases e1 : rowsOf zs with
    | none => rw [e1] at he; cases he
    | some rs =>
      rw [e1] at he
      simp only [Option.bind_some] at he
      split at he
      · rename_i hl
        cases he
        obtain ⟨v, rfl, hv⟩ := Paired.one h
        obtain ⟨a, vs, rfl, ha, hs⟩ := hv.list
        have ez : zs = rs.map encR := rowsOf_eq e1
        rw [ez] at hs
        refine ⟨a, vs, rs, rfl, ha, (hs.mono mask_same).dp, hl, fun p np => k _ _ (same_new np) (at_new live np ?_)⟩
        have hlen : vs.length = rs.length := by rw [hs.length, List.length_map]
        have e2 : (sortB leR rs).map encR = ((vs.zip rs).mergeSort fun x y => leR x.2 y.2).map fun b => encR b.2 := by
          have := List.map_mergeSort (r := fun x y : V × List Int => leR x.2 y.2) (s := leR) (f := fun b : V × List Int => b.2) (l := vs.zip rs) (fun _ _ _ _ => rfl)
          rw [List.map_snd_zip (by omega)] at this
          rw [sortB_eq (le := leR) (leRow_tr id) (leRow_to id), ← this, List.map_map]
          rfl
        rw [e2]
        exact ats_fstR _ fun b hb => ats_zipR hs b ((List.mergeSort_perm _ _).mem_iff.mp hb)
      · cases he
  · cases he
end JL
/-! J36: isinstance of a caught exception, as a word of the J layer; «is None» of what may be a handle. -/
namespace JL
open PySem PySem.Spec PyProof.Rows L2
section
variable {X : Cx} {N : Ent} {W : WX} {a b : Expr} {ma : M RV} {pos : Pos}
/-- isinstance(e, C), e an exception of the class number c0 -/
def mIsX (c0 : Nat) (b : Bool) (ma : M RV) (st0 : ST) : R RV := (ma.bind fun r => fun st => match r with
  | .hdl j => (match st.gs[j]? with
    | some (.exn c) => if c = c0 then .ok (.dat (.bool b)) st else .stuck
    | _ => .stuck)
  | _ => .stuck) st0
theorem je_isX {c0 : Nat} {x : Str} {D : Addr} {cl : V} {cv : Value} {bb : Bool} {p p2 : Pos} (ha : JE X N W a ma) (hc : PE X (.Name x p2) (tC cl)) (hcv : ∀ u, RelV cl u → u = cv) (hD : N.cls c0 = .ref D) (E : ExcC X.K D) (hk : PySem.W.kitOne X.K (.ref D) cv = some bb)
    (hm : X.mg "isinstance" = none) (hv : bootBuiltins "isinstance" = some (.builtin "isinstance")) (hg : Gl X "isinstance" := by rfl)
    (he : starEach [a, .Name x p2] X.env = (false, eval a X.env) :: starEach [.Name x p2] X.env := by rfl) (he2 : starEach [.Name x p2] X.env = (false, eval (.Name x p2) X.env) :: starEach [] X.env := by rfl) (hpl : (backTo pos (starEach [.Name x p2] X.env)).any (·.1) = false := by rfl) :
    JE X N W (.Call (.Name "isinstance" p) [a, .Name x p2] [] pos) (mIsX c0 bb ma) := by
  refine PE.weak (pe_callB call_isX hg hm hv (pa_cons ha (pa_cons hc pa_nil he2) he) (by decide) (by decide) he hpl) fun σ H Q ⟨L, as1, st, rel, h⟩ => ?_
  refine sem_mono (fin_bind (P1 := VRel) rel h) fun v H1 ⟨L3, as3, s3, rv, r3, v3, x3, f3⟩ => ?_
  cases rv with
  | dat d => exact f3.elim
  | bor i => exact f3.elim
  | hdl j =>
    dsimp only at f3
    cases e1 : s3.gs[j]? with
    | none => rw [e1] at f3; exact f3.elim
    | some go =>
      rw [e1] at f3
      cases go with
      | drw _ _ => exact f3.elim
      | acc _ => exact f3.elim
      | dk _ => exact f3.elim
      | dt _ => exact f3.elim
      | tab _ => exact f3.elim
      | tpl _ => exact f3.elim
      | ins _ => exact f3.elim
      | dl _ => exact f3.elim
      | dz _ => exact f3.elim
      | dn _ => exact f3.elim
      | d0 _ => exact f3.elim
      | exn c =>
        dsimp only at f3
        by_cases hcc : c = c0
        · rw [if_pos hcc] at f3
          subst hcc
          obtain ⟨w, fp, q1, q2⟩ := v3
          obtain ⟨w', ew, hw⟩ := r3.g.gok j _ _ e1 q1
          injection ew with e2 e3
          subst e2
          subst q2
          rw [hD] at hw
          exact ⟨w, D, cl, cv, bb, rfl, hw, E, hcv, hk, fin_dat r3 f3 (Same.refl _) (.bl _)⟩
        · rw [if_neg hcc] at f3; exact f3.elim
/-- e is None, where e may be a handle -/
def mIsNH (ma : M RV) (st0 : ST) : R RV := (ma.bind fun r => fun st => match r with
  | .hdl _ => .ok (.dat (.bool false)) st
  | r => outO ((st.look r).bind fun d => some (.bool (isNone d))) st) st0
theorem isND_non (d : PyData) : isND d .none = some (.bool (isNone d)) := by simp [isND]
theorem isNH_fin {v : V} {H1 : Hp} {L3 : List Addr} {as3 : List (List Addr)} {s3 : ST} {rv : RV} {σ : L2.St} {Q : VK} (r3 : Rel N L3 as3 s3 σ H1) (v3 : VRel L3 as3 σ H1 v rv)
    (f3 : Fin N W VRel L3 as3 σ H1 (match rv with
      | .hdl _ => .ok (.dat (.bool false)) s3
      | r => outO ((s3.look r).bind fun d => some (.bool (isNone d))) s3) Q) : Q (.bl (decide (v = .non))) H1 := by
  have main : ∀ r : RV, VRel L3 as3 σ H1 v r → Fin N W VRel L3 as3 σ H1 (outO ((s3.look r).bind fun d => some (.bool (isNone d))) s3) Q → Q (.bl (decide (v = .non))) H1 := fun r hv hf => by
    cases e1 : s3.look r with
    | none => rw [e1] at hf; exact hf.elim
    | some d =>
      rw [e1] at hf
      rw [isNone_of (r3.look hv e1)]
      exact fin_dat r3 hf (Same.refl _) (.bl _)
  cases rv with
  | dat d => exact main _ v3 f3
  | bor i => exact main _ v3 f3
  | hdl j =>
    obtain ⟨w, fp, q1, q2⟩ := v3
    subst q2
    have : decide (V.ref w = V.non) = false := decide_eq_false fun z => nomatch z
    rw [this]
    exact fin_dat r3 f3 (Same.refl _) (.bl _)
theorem jt_isNH {j : Nat} {p2 : Pos} (ha : JE X N W a ma) (hm : behindInMarks .Is (.Constant .none j p2) = false := by first | exact nobehind _ (by decide) (by decide) | rfl) : JT X N W (.Compare a [.Is] [.Constant .none j p2] pos) (mTest (mIsNH ma)) := by
  refine PT.weak (pt_cmpR op_isN ha pe_non hm) fun σ H Q h => ?_
  obtain ⟨L, as1, st, rel, h1⟩ := sem_test h
  refine sem_mono (fin_bind (P1 := VRel) rel h1) fun v H1 ⟨L3, as3, s3, rv, r3, v3, x3, f3⟩ => ?_
  refine ⟨rfl, isNH_fin (W := W) (Q := fun x H' => ∃ k, x = V.bl k ∧ Q k H') r3 v3 ?_⟩
  cases rv <;> exact f3
end
end JL
namespace JL
open PySem PySem.Spec PyProof.Rows L2
abbrev bmVE : List Value := [.type "ValueError", .type "Exception", .type "BaseException", .type "object"]
/-- what the text says of the class of the exceptions that are raised -/
structure ExcT (K : PySem.W.Frag) (mg : Str → Option Value) (x : Str) (C : Addr) : Prop where
  g : mg x = some (.ref C)
  k : PySem.W.keepIn K (.ref C) = true
  x : PySem.W.excIn K C bmVE "ValueError.__new__" = true
  b : PySem.W.subIn K (.ref C) (.type "BaseException") = some true
  t : PySem.W.typeIn K (.ref C) = some (.type "type")
  e : ExcC K C
  v : PySem.W.kitOne K (.ref C) (.type "ValueError") = some true
theorem excT_mk {K : PySem.W.Frag} {h : Heap} {mg : Str → Option Value} {x : Str} {C : Addr} (X : K.In h) (G : h.Ns mainGlobals mg) (a : PySem.W.nsIn K mainGlobals x = some (some (.ref C))) (k : PySem.W.keepIn K (.ref C) = true) (xx : PySem.W.excIn K C bmVE "ValueError.__new__" = true)
    (b : PySem.W.subIn K (.ref C) (.type "BaseException") = some true) (t : PySem.W.typeIn K (.ref C) = some (.type "type"))
    (hg : PySem.W.findIn K (.ref C) "__getattribute__" = some (some (.builtin "BaseException.__getattribute__"))) (hk : PySem.W.findIn K (.ref C) "__getattr__" = some none) (hd : PySem.W.hasDictIn K C = true)
    (ha : PySem.W.findIn K (.ref C) "__class__" = some (some (.builtin "object.__class__"))) (hn : PySem.W.specialIn K (.builtin "object.__class__") "__get__" = some (some (.builtin "getset_descriptor.__get__"))) (ht : PySem.W.takesIn K (.builtin "object.__class__") = some true)
    (hm : PySem.W.mroIn K C (.type "object") = some true) (v : PySem.W.kitOne K (.ref C) (.type "ValueError") = some true) : ∃ C, ExcT K mg x C :=
  ⟨C, PySem.W.mg_of X G a, k, xx, b, t, ⟨hg, hk, b, hd, ha, hn, ht, hm⟩, v⟩
/-- another class, and whether the first is one of it -/
def SubT (K : PySem.W.Frag) (mg : Str → Option Value) (C : Addr) (y : Str) (b : Bool) : Prop := ∃ D, mg y = some (.ref D) ∧ PySem.W.kitOne K (.ref C) (.ref D) = some b ∧ PySem.W.exmOne K (.ref C) (.ref D) = some b
structure SubS (K : PySem.W.Frag) (mg : Str → Option Value) (C : Addr) (y : Str) (b : Bool) where
  D : Addr
  g : mg y = some (.ref D)
  k : PySem.W.kitOne K (.ref C) (.ref D) = some b
  e : PySem.W.exmOne K (.ref C) (.ref D) = some b
theorem exm7 {K : PySem.W.Frag} {cls : Cl} {C D : Addr} (hL : cls 7 = .ref C) (e : PySem.W.exmOne K (.ref C) (.ref D) = some true) : ∀ c, (c == 7) = true → PySem.W.exmOne K (cls c) (.ref D) = some true := fun c hc => by
  have h7 : c = 7 := by simpa using hc
  rw [h7, hL]
  exact e
theorem subT_mk {K : PySem.W.Frag} {h : Heap} {mg : Str → Option Value} {x y : Str} {C D : Addr} {b : Bool} (X : K.In h) (G : h.Ns mainGlobals mg) (hC : mg x = some (.ref C)) {C' : Addr} (a' : PySem.W.nsIn K mainGlobals x = some (some (.ref C'))) (a : PySem.W.nsIn K mainGlobals y = some (some (.ref D))) (k : PySem.W.kitOne K (.ref C') (.ref D) = some b) (e : PySem.W.exmOne K (.ref C') (.ref D) = some b) : SubT K mg C y b := by
  have := PySem.W.mg_of X G a'
  rw [hC] at this
  cases this
  exact ⟨D, PySem.W.mg_of X G a, k, e⟩
end JL
/-! J37: [x] * k. -/
namespace JL
open PySem PySem.Spec PyProof.Rows L2
@[simp] def repLD : PyData → PyData → Option PyData
  | .list [d], .int k => if 0 ≤ k ∧ k ≤ 1000 then some (.list (List.replicate k.toNat d)) else none
  | _, _ => none
theorem pure_repL : Pure2 rRep repLD := by
  intro x y H L Q d e g live hx hy he k
  unfold repLD at he
  split at he
  · rename_i d0 k0
    split at he
    · rename_i hk
      cases he
      obtain ⟨a, vs, rfl, ha, hs⟩ := hx.list
      have hy' := hy.int
      subst hy'
      cases hs with
      | cons h0 t0 =>
        cases t0
        refine ⟨a, k0, _, rfl, rfl, ha, by omega, by omega, ?_, fun p np => ?_⟩
        · have h1 : k0.toNat ≤ 1000 := by omega
          have h2 := Nat.le_of_lt (small1000 h1)
          simpa using h2
        · refine k _ _ (same_new np) (at_new live np ?_)
          have e1 : ∀ (n : Nat) (v : V), (List.replicate n [v]).flatten = List.replicate n v := fun n v => flat_one v n
          first
            | (rw [e1]; exact ats_rep h0 _)
            | exact ats_rep h0 _
    · cases he
  · cases he
end JL
/-! J38: sorted(set(xs)), xs a list of ints. -/
namespace JL
open PySem PySem.Spec PyProof.Rows L2
abbrev nSet (w : World) : Obj := { cls := .type "set", dict := none, data := .set #[] 0 (.fresh 0 0 (!w.params.followText "set-order")) }
section
variable {P : Program} {w : World} {A : Around} {E : Value → Shared → Prop} {s : Shared}
theorem set_of_list {l : Addr} {its : Array Value} (zs : List Int) {Q : Value → Shared → Prop} (hnone : A.handled = none) (hl : s.heap.IsList l its) (hit : IntsAre its.toList zs) (hb : zs.length + 1 < scanBound)
    (done : ∀ (h' : Heap) (tk c : Nat), SetR w h' s.heap.objs.size (fun j => decide (j ∈ zs)) c → c ≤ zs.length → (∀ b o, s.heap.get? b = some o → h'.get? b = some o) → Q (.ref s.heap.objs.size) { s with heap := h', toks := tk }) :
    wpAny (model P w) A (call (.type "set") [.ref l]) Q E s := by
  have hlen : its.size = zs.length := (Array.length_toList (xs := its)).symm.trans (IntsAre.length hit)
  obtain ⟨c0, tl0, hmro⟩ := F.called_set.mro
  have fmade := F.called_set.made
  have fsub := F.called_set.sub
  refine wpAny_call (codeAny_of_tree (show wpAny _ _ (callAny (.type "set") _) _ _ _ from ?_))
  refine wpAny_pure (And.intro (Code.quiet_builtin _ (by decide +kernel)) (codeAny_builtin F.entry_type_call ?_))
  rw [Around.under_plain (weight_type_call_type "set" [Value.ref l] []) rfl]
  have fnt := F.called_set.notType
  have fcc := F.called_set.canCreate
  have fct := F.typeCall_set_1 (Value.ref l)
  repeat (any_goals (first | assumption | wp_step))
  refine codeAny_mono (code_set_led1 (Value.ref l) (E := E) (Q₁ := fun obj s1 => obj = .ref s.heap.objs.size ∧ s1 = { s with heap := s.heap.push (nSet w) }) (And.intro rfl rfl)) (fun res s1 hres => ?_)
  match res, hres with
  | .error _, hres => exact hres
  | .ok (.ret obj), hres =>
    obtain ⟨e1, e2⟩ := hres
    subst e1
    subst e2
    have atS : (s.heap.push (nSet w)).get? s.heap.objs.size = some (nSet w) := Heap.get?_push_size _ rfl
    have tyS : Shared.TypeIs { s with heap := s.heap.push (nSet w) } (.ref s.heap.objs.size) "set" := ⟨_, atS, rfl⟩
    have fli := F.called_set.init.lookup
    have fbi := F.called_set.init.bind (Value.ref s.heap.objs.size)
    repeat (any_goals (first | assumption | wp_step))
    refine codeAny_mono (codeAny_call_builtin (R := wants (fun r s2 => r = .none ∧ ∃ h' tk c, s2 = { s with heap := h', toks := tk } ∧ SetR w h' s.heap.objs.size (fun j => decide (j ∈ zs)) c ∧ c ≤ zs.length ∧ (∀ b o, s.heap.get? b = some o → h'.get? b = some o)) E) F.called_set.init.plain F.entry_set_init (check_set_init_1 tyS ?_)) (fun res2 s2 hres2 => ?_)
    · obtain ⟨ol, hol, hcl, nl, hdl⟩ := hl
      cases ol with
      | mk oc od odt os =>
        simp only at hcl hdl
        subst hcl
        subst hdl
        have atl : (s.heap.push (nSet w)).get? l = some { cls := .type "list", dict := od, data := .seq its nl, slots := os } := Heap.get?_push_of_some _ hol
        have fls := F.sub_list_set
        have flf := F.sub_list_frozenset
        have fld : (Value.type "list" == Value.type "dict") = false := by decide
        have isl : (s.heap.push (nSet w)).IsList l its := ⟨_, atl, rfl, nl, rfl⟩
        unfold Builtin.«set.__init__» noKeywords Builtin.Frozenset.updateFrom
        generalize hp0 : pyIter = PI0
        wp_walk
        subst hp0
        refine wpAny_pyIter_list isl (wpAny_bind (wpAny_runValue ?_))
        have llt : l < s.heap.objs.size := Heap.lt_size hol
        have hn3 : A.in1.in1.in1.handled = none := by simp [hnone]
        have hz1 : (s.heap.push (nSet w)).objs.size = s.heap.objs.size + 1 := Heap.size_push ..
        have lne : l ≠ (s.heap.push (nSet w)).objs.size := fun h => absurd (h.trans hz1) (Nat.ne_of_lt (Nat.lt_succ_of_lt llt))
        have nin : s.heap.objs.size ∉ [(s.heap.push (nSet w)).objs.size, l] := by
          rw [hz1]
          intro h
          rcases List.mem_cons.mp h with h | h
          · exact Nat.ne_of_lt (Nat.lt_succ_self _) h
          · exact Nat.ne_of_gt llt (List.mem_singleton.mp h)
        have val : ∀ (i : Nat) (v : Value), its[i]? = some v → ∃ k t, zs[i]? = some k ∧ v = .int k t := by
          intro i v hv
          have hi : i < zs.length := hlen ▸ (Array.getElem?_eq_some_iff.mp hv).1
          obtain ⟨t, e⟩ := PyProof.Rows.IntsAre.int_at hit i v ((Array.getElem?_toList (xs := its)).trans hv)
          refine ⟨zs[i], t, List.getElem?_eq_getElem hi, e.trans ?_⟩
          rw [List.getD_eq_getElem?_getD, List.getElem?_eq_getElem hi]
          rfl
        refine set_update_ints ((Walks.list hn3 _ l lne its).toS) s.heap.objs.size nin zs hlen hb val (its.size - 0) 0 _ (by omega) (Nat.zero_le _) ⟨⟨_, Heap.get?_push_size _ rfl, rfl, rfl⟩, (isl.push _)⟩ ⟨0, Nat.le_refl 0, setR_new_at (Heap.get?_push_of_some _ atS)⟩ ?_
        intro s' c' hm hc' hS'
        obtain ⟨h', g', d', tk', o'⟩ := s'
        have eg : g' = s.gens := hm.gens
        have ed : d' = s.drawn := hm.drawn
        have eo : o' = s.os := hm.os
        subst eg
        subst ed
        subst eo
        refine wpAny_pure (show wpAny _ _ (ret Value.none) _ _ _ from wpAny_pure ⟨rfl, h', tk', c', rfl, hS', hlen ▸ hc', fun b o e => ?_⟩)
        have blt : b < s.heap.objs.size := Heap.lt_size e
        refine hm.heap b o ?_ (Heap.get?_push_of_some _ (Heap.get?_push_of_some _ e))
        rw [hz1]
        intro h
        rcases List.mem_cons.mp h with h | h
        · exact Nat.ne_of_lt blt h
        · exact Nat.ne_of_lt (Nat.lt_succ_of_lt blt) (List.mem_singleton.mp h)
    · match res2, hres2 with
      | .error _, hres2 => exact hres2
      | .ok (.ret r), hres2 =>
        obtain ⟨e1, h', tk, c', e2, hS', hc', hk'⟩ := hres2
        subst e1
        subst e2
        repeat (any_goals (first | assumption | wp_step))
        exact done _ _ _ hS' hc' hk'
end
def ddI : List Int → List Int
  | [] => []
  | x :: r => if x ∈ ddI r then ddI r else x :: ddI r
theorem ddI_mem : ∀ (l : List Int) (x : Int), x ∈ ddI l ↔ x ∈ l
  | [], x => Iff.rfl
  | y :: r, x => by
    unfold ddI
    split
    · rename_i h
      rw [ddI_mem r x, List.mem_cons]
      refine ⟨.inr, fun e => ?_⟩
      rcases e with rfl | e
      · exact (ddI_mem r x).mp h
      · exact e
    · rw [List.mem_cons, List.mem_cons, ddI_mem r x]
theorem ddI_nodup : ∀ l : List Int, (ddI l).Nodup
  | [] => List.nodup_nil
  | y :: r => by
    unfold ddI
    split
    · exact ddI_nodup r
    · rename_i h
      exact List.nodup_cons.mpr ⟨h, ddI_nodup r⟩
/-- the members, ascending -/
def setI (l : List Int) : List Int := sortI (ddI l)
theorem setI_mem (l : List Int) (x : Int) : x ∈ setI l ↔ x ∈ l := by
  unfold setI
  rw [(sortI_perm _).mem_iff, ddI_mem]
theorem setI_only {l ns : List Int} (h : ns.Pairwise (· < ·)) (m : ∀ k, k ∈ ns ↔ k ∈ l) : ns = setI l := by
  have nd : ns.Nodup := h.imp fun h => Int.ne_of_lt h
  have nd2 : (setI l).Nodup := (sortI_perm _).nodup_iff.mpr (ddI_nodup l)
  refine sorted_unique ?_ (h.imp fun h => Int.le_of_lt h) (sortI_sorted _)
  exact (List.perm_ext_iff_of_nodup nd nd2).mpr fun x => by rw [m, setI_mem]
section
variable {X : Cx} {N : Ent} {W : WX} {a : Expr} {mr : M (List RV)} {pos : Pos}
def rSSet (K : PySem.W.Frag) : List V → Hp → VK → Prop := fun xs H Q => ∃ (l : Addr) (zs : List Int), xs = [V.ref l] ∧ SqL K H l (zs.map V.int) ∧ zs.length < 64 ∧ ∀ p, H p = none → Q (.ref p) (upd H p (.lst ((setI zs).map V.int)))
theorem pe_sortSet {ta : TA} {p p2 pos2 : Pos} (hg : Gl X "sorted") (hm : X.mg "sorted" = none) (hg2 : Gl X "set") (hm2 : X.mg "set" = none) (hcalm : X.calm = true) (ha : PA X [a] ta)
    (hs : starEach [a] X.env = [(false, eval a X.env)]) (hs2 : starEach [.Call (.Name "set" p2) [a] [] pos2] X.env = (false, eval (.Call (.Name "set" p2) [a] [] pos2) X.env) :: starEach [] X.env) :
    PE X (.Call (.Name "sorted" p) [.Call (.Name "set" p2) [a] [] pos2] [] pos) (fun σ H Q => ta σ H fun xs H1 => rSSet X.K xs H1 Q) := by
  refine ⟨fun pins s σ H Q I h => ?_⟩
  refine wpAny_Call_Name_kw (ld_blt I hg hm (u := .builtin "sorted") (by decide +kernel) ?_)
  refine PyProof.Rows.callWith_builtin1 ?_ hs2 rfl
  rw [hs2]
  show wpAny _ _ (spliced ((false, eval (.Call (.Name "set" p2) [a] [] pos2) X.env) :: backTo pos (starEach [] X.env))) _ _ s
  refine Calls.spliced_cons ?_
  refine wpAny_Call_Name_kw (ld_blt I hg2 hm2 PyProof.Rows.boot_set ?_)
  refine PyProof.Rows.callWith_type1 (thn (ha.run pos2 pins s σ H _ I h) fun us s1 ⟨vs, H1, I1, r1, q1⟩ => ?_) hs rfl
  obtain ⟨l, zs, e, hq, h64, q⟩ := q1
  subst e
  cases r1 with
  | cons r rr =>
    cases rr
    cases r
    obtain ⟨its, rv, pl, hz⟩ := I1.list hq
    have hno := I1.ok.hd hcalm
    refine set_of_list zs hno pl.isList (by simpa using rv.ints) (by unfold scanBound; omega) fun h' tk c R1 hc1 k1 => ?_
    refine Calls.spliced_nil ?_
    have I2 : Inv X pins σ H1 { s1 with heap := h', toks := tk } := I1.kept k1
    refine sorted_set R1 hno (by omega) fun s' p out c2 ns k2 g2 o2 hp hg hi pw hmem hnl => ?_
    have en : ns = setI zs := setI_only pw fun j => (hmem j).trans decide_eq_true_iff
    subst en
    have hlen : ((setI zs).map V.int).length ≤ sizeLine := by rw [List.length_map, sizeLine_eq]; omega
    have hn : H1 p = none := I2.hok.fresh hp
    have J : Inv X pins σ (upd H1 p (.lst ((setI zs).map V.int))) { ({ s1 with heap := h', toks := tk } : Shared) with heap := s'.heap, gens := s'.gens, drawn := s'.drawn, toks := s'.toks } :=
      I2.call (ch := []) (Un.laid k2 hp hn) (I2.hok.laid k2 hp ⟨hlen, out.toList, c2, vals_of_ints hi, hg⟩) (by rw [g2]; exact I2.bare) (fun _ z => nomatch z)
    have e : s' = { ({ s1 with heap := h', toks := tk } : Shared) with heap := s'.heap, gens := s'.gens, drawn := s'.drawn, toks := s'.toks } := by
      cases s'
      cases s1
      cases o2
      rfl
    rw [e]
    exact ⟨.ref p, _, J, rfl, q p hn⟩
@[simp] def sortSetD : List PyData → Option PyData
  | [.list xs] => (intsOf xs).bind fun ns => if ns.length < 64 then some (.list ((setI ns).map .int)) else none
  | _ => none
theorem pure_sortSet {K : PySem.W.Frag} : PureC (rSSet K) sortSetD := by
  intro xs H L Q ds g live h he k
  unfold sortSetD at he
  split at he
  · rename_i zs
    cases e1 : intsOf zs with
    | none => rw [e1] at he; cases he
    | some ns =>
      rw [e1] at he
      simp only [Option.bind_some] at he
      split at he
      · rename_i hl
        cases he
        obtain ⟨v, rfl, hv⟩ := Paired.one h
        obtain ⟨a, vs, rfl, ha, hs⟩ := hv.list
        rw [intsOf_eq e1] at hs
        rw [hs.ints] at ha
        exact ⟨a, ns, rfl, SqL.of ha, hl, fun p np => k _ _ (same_new np) (at_new live np (ats_ints _))⟩
      · cases he
  · cases he
theorem je_sortSet {p p2 pos2 : Pos} (hm : X.mg "sorted" = none) (hm2 : X.mg "set" = none) (ha : JA X N W [a] mr) (hg : Gl X "sorted" := by rfl) (hg2 : Gl X "set" := by rfl) (hcalm : X.calm = true := by rfl)
    (hs : starEach [a] X.env = [(false, eval a X.env)] := by rfl) (hs2 : starEach [.Call (.Name "set" p2) [a] [] pos2] X.env = (false, eval (.Call (.Name "set" p2) [a] [] pos2) X.env) :: starEach [] X.env := by rfl) :
    JE X N W (.Call (.Name "sorted" p) [.Call (.Name "set" p2) [a] [] pos2] [] pos) (mCall sortSetD mr) := by
  refine PE.weak (pe_sortSet hg hm hg2 hm2 hcalm ha hs hs2) fun σ H Q ⟨L, as1, st, rel, h⟩ => ?_
  exact sem_mono (fin_bind (P1 := VRels) rel h) fun vs H1 ⟨L3, as3, s3, rv3, r3, v3, x3, f3⟩ => fin_call pure_sortSet r3 v3 f3
end
end JL
/-! J39: in, not in, of a tuple. -/
namespace JL
open PySem PySem.Spec PyProof.Rows L2
section
variable {X : Cx}
def rInT (K : PySem.W.Frag) (neg : Bool) : R2 := fun x y H Q => ∃ d ds, Dp K H x d ∧ Dp K H y (.tuple ds) ∧ SeqAt.shaped d = true ∧ SeqAt.shaped (.tuple ds) = true ∧ Q (.bl (neg ^^ inAny d ds)) H
theorem op_inT (hu : X.A.units + 65 < cLine) : OpR X (compareOp .In) (rInT X.K false) := by
  intro pins s σ H x y v u Q I rx ry h
  obtain ⟨d, ds, hd, he, sd, se, q⟩ := h
  obtain ⟨as, r1⟩ := Dp.reads I d x v hd rx
  obtain ⟨bs, r2⟩ := Dp.reads I (.tuple ds) y u he ry
  rw [Bool.false_xor] at q
  exact SeqAt.in_tuple_reads r2 r1 (SeqAt.canLay_of_shaped se) (SeqAt.canLay_of_shaped sd) (room_in_shaped sd hu) ⟨.bl _, H, I, rfl, q⟩
theorem op_notInT (hu : X.A.units + 65 < cLine) : OpR X (compareOp .NotIn) (rInT X.K true) := by
  intro pins s σ H x y v u Q I rx ry h
  obtain ⟨d, ds, hd, he, sd, se, q⟩ := h
  obtain ⟨as, r1⟩ := Dp.reads I d x v hd rx
  obtain ⟨bs, r2⟩ := Dp.reads I (.tuple ds) y u he ry
  rw [Bool.true_xor] at q
  exact SeqAt.notIn_tuple_reads r2 r1 (SeqAt.canLay_of_shaped se) (SeqAt.canLay_of_shaped sd) (room_in_shaped sd hu) ⟨.bl _, H, I, rfl, q⟩
end
def inTD (neg : Bool) : PyData → PyData → Option PyData
  | d, .tuple ds => if SeqAt.shaped d = true ∧ SeqAt.shaped (.tuple ds) = true then some (.bool (neg ^^ inAny d ds)) else none
  | _, _ => none
theorem pure_inT {K : PySem.W.Frag} {neg : Bool} : Pure2 (rInT K neg) (inTD neg) := by
  intro x y H L Q d e g live hx hy he k
  unfold inTD at he
  split at he
  · split at he
    · rename_i hc
      cases he
      exact ⟨d, _, hx.dp, hy.dp, hc.1, hc.2, k _ _ (Same.refl _) (.bl _)⟩
    · cases he
  · cases he
/-- None or a number -/
def encO : Option Int → PyData
  | none => .none
  | some d => .int d
def fitO (x : Option Int) (d : Int) : Bool := x.isNone || x == some d
theorem encO_shaped (x : Option Int) : SeqAt.shaped (encO x) = true := by
  cases x <;> rfl
@[simp] theorem inT_opt (neg : Bool) (x : Option Int) (d : Int) : inTD neg (encO x) (.tuple [.none, .int d]) = some (.bool (neg ^^ fitO x d)) := by
  unfold inTD
  dsimp only
  rw [if_pos ⟨encO_shaped x, rfl⟩]
  congr 3
  cases x with
  | none => rfl
  | some z =>
    simp only [inAny, fitO, encO, List.any_cons, List.any_nil, Option.isNone_some, Bool.false_or, Bool.or_false]
    have h1 : PyData.eqv .none (.int z) = false := rfl
    rw [h1, eqv_int_int, Bool.false_or]
    by_cases e : d = z
    · subst e; simp
    · simp [e, Ne.symm e]
end JL
/-! J40: a tuple of ints that is known whole (GO.tpl): tuple(list), t.index(x). -/
namespace JL
open PySem PySem.Spec PyProof.Rows L2
section
variable {X : Cx}
/-- tuple(xs), the new object known -/
def rTupX (K : PySem.W.Frag) : List V → Hp → VK → Prop := fun xs H Q => ∃ (p : Addr) (ns : List Int), xs = [.ref p] ∧ SqL K H p (ns.map V.int) ∧ ∀ (q : Addr) (o : Obj), H q = none → o.dict = none → Q (.ref q) (upd H q (.frz o (.tup (ns.map V.int))))
theorem cr_tupX : CallR X (.type "tuple") (rTupX X.K) := by
  intro pins s σ H xs us Q I r h
  obtain ⟨p, ns, rfl, hs, q⟩ := h
  rw [Vals.ref1 r]
  obtain ⟨its, rv, pl, hz⟩ := I.list hs
  refine call_tuple_list pl.isList (fun h' hk => ?_) (by rw [List.size_toArray, ← rv.length]; exact hz)
  have I1 : Inv X pins σ H { s with heap := h' } := I.kept (t' := s.toks) hk
  have hat : (h'.push { cls := .type "tuple", data := .seq its.toArray }).get? h'.objs.size = some { cls := .type "tuple", data := .seq its.toArray } := Heap.get?_push_size _ rfl
  refine ⟨.ref h'.objs.size, _, I1.laid (t' := s.toks) (a := h'.objs.size) (o := .frz { cls := .type "tuple", data := .seq its.toArray } (.tup (ns.map V.int))) (fun b o e => Heap.get?_push_of_some _ e) (Nat.le_refl _) ⟨hat, hz, its, rv, IsTup.new _ _⟩, rfl, q _ _ (I1.hok.fresh (Nat.le_refl _)) rfl⟩
theorem flat_intsV (ys : List Int) : (ys.map V.int).all flatV = true := by
  rw [List.all_map]
  exact List.all_eq_true.mpr fun _ _ => rfl
/-- t.index(x), the first place -/
def rIdxT (K : PySem.W.Frag) : V → List V → Hp → VK → Prop := fun x xs H Q => ∃ (p : Addr) (ys : List Int) (z : Int) (j : Nat), x = .ref p ∧ xs = [.int z] ∧ SqT K H p (ys.map V.int) ∧ ys[j]? = some z ∧ (∀ m, m < j → ys[m]? ≠ some z) ∧ Q (.int (j : Nat)) H
theorem mt_tupI : MtR X "tuple.index" (rIdxT X.K) := by
  intro pins s σ H x xs v us Q I rx rs h
  obtain ⟨p, ys, z, j, rfl, rfl, hq, hy, hno, q⟩ := h
  cases rx
  obtain ⟨u, rfl, t, rfl⟩ := vals1 rs
  obtain ⟨its, r, pl, hz⟩ := I.tuple hq
  obtain ⟨⟨cls, dd, dt, sl⟩, ho, hc, n, hd⟩ := pl
  simp only at hc hd
  subst hc
  subst hd
  have hl : its.toArray.size = ys.length := by rw [List.size_toArray, ← r.length, List.length_map]
  have hj : j < its.toArray.size := hl ▸ (List.getElem?_eq_some_iff.mp hy).1
  have tell : ∀ (m : Nat) (hm : m < its.toArray.size), ∃ y t', ys[m]? = some y ∧ its.toArray[m] = Value.int y t' := fun m hm => by
    have hm' : m < ys.length := hl ▸ hm
    obtain ⟨w, hw, t', hw'⟩ := r.get (i := m) (x := .int ys[m]) (by simp [hm'])
    refine ⟨ys[m], t', List.getElem?_eq_getElem hm', ?_⟩
    have e := (List.getElem?_eq_some_iff.mp hw).2
    rw [← hw', ← e]
    simp
  refine call_meets PySem.F.slot_tuple_index ⟨_, ho, rfl⟩ PySem.F.entry_tuple_index (PySem.F.args_tuple_index_2 _ _) (TI.tuple_indexAt p its.toArray n dd sl (.int z t) (eqU (.int z)) j hj ?_ ?_)
    ⟨ho, fun w hw => mem_eqAt (x := .int z) ⟨t, rfl⟩ rfl r (flat_intsV ys) w (by simpa using hw), ⟨.int (j : Nat), H, I.tok _, ⟨_, rfl⟩, q⟩⟩
  · obtain ⟨y, t', h1, h2⟩ := tell j hj
    rw [hy] at h1
    cases h1
    rw [h2]
    simp [eqU, eqV]
  · intro m hm hmj
    obtain ⟨y, t', h1, h2⟩ := tell m hm
    have hne : y ≠ z := fun e => hno m hmj (by rw [h1, e])
    rw [h2]
    simp [eqU, eqV, hne]
/-- t.name(e), t known whole -/
def tBMX (r : V → List V → Hp → VK → Prop) (to : TE) (t : TA) : TE := fun σ H Q => to σ H fun x H1 => (∃ (a : Addr) (ob : Obj) (xs : List V), x = .ref a ∧ H1 a = some (.frz ob (.tup xs)) ∧ ob.dict = none) ∧ t σ H1 fun xs H2 => r x xs H2 Q
theorem pe_tupM {o e : Expr} {es : List Expr} {to : TE} {t : TA} {name : Str} {apos cpos : Pos} {id : String} {r : V → List V → Hp → VK → Prop} (pa : PlainAttrs "tuple") (slot : Slot "tuple" name id) (hty : typeOf (.builtin id) = pure (.type "method_descriptor")) (hm : MtR X id r) (ho : PE X o to) (ha : PA X (e :: es) t)
    (hbase : attributeBase o name X.env (eval o X.env) = eval o X.env) (hfew : ((backTo cpos (starEach (e :: es) X.env)).all (fun x => !x.1) && (backToKw cpos (keywordEach [] X.env)).all (fun x => x.1.isSome) && decide ((e :: es).length + ([] : List Keyword).length + (if ([] : List Keyword).isEmpty then 0 else 1) < 30)) = true)
    (hline : (apos.endLine == cpos.line) = true) (hs : starEach (e :: es) X.env = (false, eval e X.env) :: starEach es X.env) (hplain : (backTo cpos (starEach es X.env)).any (·.1) = false) :
    PE X (.Call (.Attribute o name apos) (e :: es) [] cpos) (tBMX r to t) := by
  refine ⟨fun pins s σ H Q I h => ?_⟩
  refine wpAny_Call_method_late hbase hfew hline rfl (thn (ho.run pins s σ H _ I h) fun v s1 ⟨x, H1, I1, r1, ty, q1⟩ => ?_)
  obtain ⟨a, ob, xs, rfl, hH, hd⟩ := ty
  cases r1
  obtain ⟨hg, hz, its, rv, tp⟩ := I1.hok a _ hH
  refine ⟨"tuple", id, pa, slot, hty, tp.typeIs, fun a' e => by cases e; exact ⟨ob, hg, hd⟩, ?_⟩
  have hA := ha.run cpos pins s1 σ H1 _ I1 q1
  rw [hs] at hA ⊢
  refine Calls.callWith_builtin (by show (false || (backTo cpos (starEach es X.env)).any (·.1)) = false; rw [hplain] <;> rfl) (Calls.evalArgs_plain ?_)
  exact thn hA fun us s2 ⟨vs, H2, I2, r2, q2⟩ => hm pins s2 σ H2 (.ref a) vs (.ref a) us Q I2 rfl r2 q2
end
section
variable {X : Cx} {N : Ent} {W : WX} {e a b : Expr} {ma mb : M RV} {mr : M (List RV)} {pos : Pos}
/-- tuple(xs), known whole -/
@[simp] def mTplNew (mr : M (List RV)) (st0 : ST) : R RV := (mr.bind fun rs => fun st => match lookAll st rs with
  | some [.list ds] => (match intsOf ds with
    | some ns => mDnew (.tpl ns) st
    | none => .stuck)
  | _ => .stuck) st0
theorem je_tplNew {p : Pos} (hm : X.mg "tuple" = none) (ha : JA X N W [e] mr) (hg : Gl X "tuple" := by rfl) (he : starEach [e] X.env = (false, eval e X.env) :: starEach [] X.env := by rfl) (hpl : (backTo pos (starEach [] X.env)).any (·.1) = false := by rfl) :
    JE X N W (.Call (.Name "tuple" p) [e] [] pos) (mTplNew mr) := by
  refine PE.weak (pe_callTy cr_tupX hg hm (by decide +kernel) ha (by decide) (by decide) he hpl) fun σ H Q ⟨L, as1, st, rel, h⟩ => ?_
  refine sem_mono (fin_bind (P1 := VRels) rel h) fun vs H1 ⟨L3, as3, s3, rs, r3, v3, x3, f3⟩ => ?_
  cases e1 : lookAll s3 rs with
  | none => rw [e1] at f3; exact f3.elim
  | some dd =>
    rw [e1] at f3
    have pr := r3.lookAll v3 e1
    split at f3
    · rename_i ds ed
      cases ed
      cases e2 : intsOf ds with
      | none => rw [e2] at f3; exact f3.elim
      | some ns =>
        rw [e2] at f3
        obtain ⟨v, rfl, hv⟩ := Paired.one pr
        obtain ⟨p0, ws, rfl, hp, hs⟩ := hv.list
        rw [intsOf_eq e2] at hs
        rw [hs.ints] at hp
        exact ⟨p0, ns, rfl, SqL.of hp, fun q o nq hd => fin_dnew r3 f3 nq ⟨q, o, rfl, upd_same, hd⟩⟩
    · exact f3.elim
theorem Rel.tpl {L : List Addr} {as1 : List (List Addr)} {st : ST} {σ : L2.St} {H : Hp} (r : Rel N L as1 st σ H) {j : Nat} {ns : List Int} {v : V} (hv : VRel L as1 σ H v (.hdl j)) (hg : st.gs[j]? = some (.tpl ns)) : ∃ (a : Addr) (o : Obj), v = .ref a ∧ H a = some (.frz o (.tup (ns.map V.int))) ∧ o.dict = none := by
  obtain ⟨a, fp, ea, ev⟩ := hv
  obtain ⟨a', o, efp, hH, hd⟩ := r.g.gok j _ _ hg ea
  cases efp
  exact ⟨a, o, ev, hH, hd⟩
/-- h.index(x) -/
@[simp] def mIndexH (ma : M RV) (mr : M (List RV)) (st0 : ST) : R RV := (ma.bind fun a => fun st => match a with
  | .hdl j => (match st.gs[j]? with
    | some (.tpl _) => (mr.bind fun r => fun st2 => match lookAll st2 r, st2.gs[j]? with
      | some [.int z], some (.tpl ns) => if z ∈ ns then .ok (.dat (.int (ns.idxOf z : Nat))) st2 else .stuck
      | _, _ => .stuck) st
    | _ => .stuck)
  | _ => .stuck) st0
theorem je_indexH {apos cpos : Pos} (ho : JE X N W a ma) (ha : JA X N W [e] mr) (hbase : attributeBase a "index" X.env (eval a X.env) = eval a X.env := by rfl)
    (hfew : ((backTo cpos (starEach [e] X.env)).all (fun x => !x.1) && (backToKw cpos (keywordEach [] X.env)).all (fun x => x.1.isSome) && decide ([e].length + ([] : List Keyword).length + (if ([] : List Keyword).isEmpty then 0 else 1) < 30)) = true := by rfl)
    (hline : (apos.endLine == cpos.line) = true := by rfl) (hs : starEach [e] X.env = (false, eval e X.env) :: starEach [] X.env := by rfl) (hpl : (backTo cpos (starEach [] X.env)).any (·.1) = false := by rfl) :
    JE X N W (.Call (.Attribute a "index" apos) [e] [] cpos) (mIndexH ma mr) := by
  refine PE.weak (pe_tupM PySem.F.plainAttrs_tuple PySem.F.slot_tuple_index PySem.F.type_tuple_index mt_tupI ho ha hbase hfew hline hs hpl) fun σ H Q ⟨L, as1, st, rel, h⟩ => ?_
  refine sem_mono (fin_bind (P1 := VRel) rel h) fun v H1 ⟨L3, as3, s3, rv, r3, v3, x3, f3⟩ => ?_
  cases rv with
  | dat d => exact f3.elim
  | bor i => exact f3.elim
  | hdl j =>
    dsimp only at f3
    cases eg : s3.gs[j]? with
    | none => rw [eg] at f3; exact f3.elim
    | some go =>
      rw [eg] at f3
      cases go with
      | tpl n0 =>
        obtain ⟨a0, o0, ev, hH, hd⟩ := r3.tpl v3 eg
        refine ⟨⟨a0, o0, _, ev, hH, hd⟩, ?_⟩
        refine sem_mono (fin_bind (P1 := VRels) r3 f3) fun vs H2 ⟨L4, as4, s4, rs, r4, v4, x4, f4⟩ => ?_
        split at f4
        · rename_i z ns e1 e2
          split at f4
          · rename_i hz
            obtain ⟨a1, o1, ev1, hH1, _⟩ := r4.tpl (v3.ext x4) e2
            obtain ⟨w, rfl, hw⟩ := Paired.one (r4.lookAll v4 e1)
            have hw' := hw.int
            subst hw'
            refine ⟨a1, ns, z, ns.idxOf z, ev1, rfl, .inl (.inr ⟨o1, hH1⟩), ?_, fun m hm hme => ?_, fin_dat r4 f4 (Same.refl _) (.int _)⟩
            · rw [List.getElem?_eq_getElem (List.idxOf_lt_length_of_mem hz)]
              simp
            · have hlt : m < ns.length := Nat.lt_trans hm (List.idxOf_lt_length_of_mem hz)
              rw [List.getElem?_eq_getElem hlt] at hme
              have hq : ns[m] = z := Option.some.inj hme
              have hn := List.not_of_lt_findIdx (xs := ns) (p := (· == z)) (i := m) hm
              simp [hq] at hn
          · exact f4.elim
        · exact f4.elim
      | drw _ _ => exact f3.elim
      | acc _ => exact f3.elim
      | dk _ => exact f3.elim
      | dt _ => exact f3.elim
      | exn _ => exact f3.elim
      | tab _ => exact f3.elim
      | ins _ => exact f3.elim
      | dl _ => exact f3.elim
      | dz _ => exact f3.elim
      | dn _ => exact f3.elim
      | d0 _ => exact f3.elim
end
end JL
/-! J41: slices of a tuple known whole. -/
namespace JL
open PySem PySem.Spec PyProof.Rows L2
theorem cutV_ints (ns : List Int) (lo hi : Option Int) : cutV (ns.map V.int) lo hi = (cutD ns lo hi).map V.int := by
  unfold cutV cutD
  rw [List.length_map, List.map_take, List.map_drop]
section
variable {X : Cx} {N : Ent} {W : WX} {e a b : Expr} {ma mb : M RV} {mr : M (List RV)} {pos : Pos}
abbrev wholeS (n : Nat) (lo hi : Option Int) : Prop := HT.sIx n 0 lo = 0 ∧ HT.sIx n n hi = n
def rSlX (K : PySem.W.Frag) : V → Option Int → Option Int → Hp → VK → Prop := fun x lo hi H Q => ∃ (a : Addr) (ns : List Int), x = .ref a ∧ SqT K H a (ns.map V.int) ∧
  (wholeS ns.length lo hi → Q (.ref a) H) ∧ (¬ wholeS ns.length lo hi → ∀ (p : Addr) (o : Obj), H p = none → o.dict = none → Q (.ref p) (upd H p (.frz o (.tup ((cutD ns lo hi).map V.int)))))
theorem sl_tupX : SlR X (rSlX X.K) := by
  intro pins s σ H x v vl vu lo hi sl Q I rx hs pl pu h
  obtain ⟨a, ns, rfl, hx, q1, q2⟩ := h
  cases rx
  obtain ⟨its, r, ht, hz⟩ := I.tuple hx
  have hlen : its.toArray.size = ns.length := by rw [List.size_toArray, ← r.length, List.length_map]
  refine ⟨"tuple", _, PyProof.Rows.slot_tuple_getitem.lookup, ht.typeIs, ?_⟩
  by_cases hw : wholeS ns.length lo hi
  · exact getItem_tuple_whole ht hs pl pu (by rw [hlen]; exact hw) ⟨.ref a, H, I, rfl, q1 hw⟩
  · refine HT.getItem_tuple_cut ht hs pl pu (by rw [hlen]; exact hw) ?_ (by rw [hlen]; rw [List.length_map] at hz; exact hz)
    rw [hlen]
    have hv := (r.drop (HT.sIx ns.length 0 lo)).take (HT.sIx ns.length ns.length hi - HT.sIx ns.length 0 lo)
    rw [← List.map_drop, ← List.map_take] at hv
    refine ⟨.ref s.heap.objs.size, _, I.laid (t' := s.toks) (a := s.heap.objs.size) (o := .frz _ (.tup ((cutD ns lo hi).map V.int))) (fun b ob q => Heap.get?_push_of_some _ q) (Nat.le_refl _) ⟨Heap.get?_push_size _ rfl, ?_, _, hv, IsTup.new _ _⟩, rfl, q2 hw _ _ (I.hok.fresh (Nat.le_refl _)) rfl⟩
    rw [← cutV_ints]
    exact Nat.le_trans (cutV_length _ lo hi) hz
/-- h[lo:hi] -/
@[simp] def mSliceH (ma : M RV) (ml mh : M (Option Int)) (st0 : ST) : R RV := (ma.bind fun a => ml.bind fun l => mh.bind fun h => fun st => match a with
  | .hdl j => (match st.gs[j]? with
    | some (.tpl ns) => if HT.sIx ns.length 0 l = 0 ∧ HT.sIx ns.length ns.length h = ns.length then .ok (.hdl j) st else mDnew (.tpl (cutD ns l h)) st
    | _ => .stuck)
  | _ => .stuck) st0
theorem je_sliceH {lo hi : Option Expr} {ml mh : M (Option Int)} {p2 : Pos} (ha : JE X N W a ma) (hl : JO X N W lo ml) (hh : JO X N W hi mh) : JE X N W (.Subscript a (.Slice lo hi none p2) pos) (mSliceH ma ml mh) := by
  refine PE.weak (pe_slice sl_tupX ha hl hh) fun σ H Q ⟨L, as1, st, rel, h⟩ => ?_
  refine sem_mono (fin_bind (P1 := VRel) rel h) fun v H1 ⟨L3, as3, s3, rv3, r3, v3, x3, f3⟩ => ?_
  refine sem_mono (fin_bind (P1 := pO) r3 f3) fun l H2 ⟨L4, as4, s4, l4, r4, v4, x4, f4⟩ => ?_
  refine sem_mono (fin_bind (P1 := pO) r4 f4) fun u H3 ⟨L5, as5, s5, l5, r5, v5, x5, f5⟩ => ?_
  cases v4
  cases v5
  have v6 := (v3.ext x4).ext x5
  cases rv3 with
  | dat d => exact f5.elim
  | bor i => exact f5.elim
  | hdl j =>
    dsimp only at f5
    cases eg : s5.gs[j]? with
    | none => rw [eg] at f5; exact f5.elim
    | some go =>
      rw [eg] at f5
      cases go with
      | tpl ns =>
        obtain ⟨a0, o0, ev, hH, hd⟩ := r5.tpl v6 eg
        subst ev
        refine ⟨a0, ns, rfl, .inl (.inr ⟨o0, hH⟩), fun w => ?_, fun w p o np hd => ?_⟩
        · have f6 : Fin N W VRel L5 as5 σ H3 (.ok (.hdl j) s5) Q := by
            have := f5
            simp only [if_pos w] at this
            exact this
          exact f6 L5 as5 _ H3 r5 v6 .refl
        · have f6 : Fin N W VRel L5 as5 σ H3 (mDnew (.tpl (cutD ns l u)) s5) Q := by
            have := f5
            simp only [if_neg w] at this
            exact this
          exact fin_dnew r5 f6 np ⟨p, o, rfl, upd_same, hd⟩
      | drw _ _ => exact f5.elim
      | acc _ => exact f5.elim
      | dk _ => exact f5.elim
      | dt _ => exact f5.elim
      | exn _ => exact f5.elim
      | tab _ => exact f5.elim
      | ins _ => exact f5.elim
      | dl _ => exact f5.elim
      | dz _ => exact f5.elim
      | dn _ => exact f5.elim
      | d0 _ => exact f5.elim
end
end JL
/-! J42: len, min of a tuple known whole. -/
namespace JL
open PySem PySem.Spec PyProof.Rows L2
section
variable {X : Cx} {N : Ent} {W : WX} {e a b : Expr} {ma mb : M RV} {mr : M (List RV)} {pos : Pos}
/-- f(h), a number -/
@[simp] def mCallH (f : List Int → Option Int) (mr : M (List RV)) (st0 : ST) : R RV := (mr.bind fun rs => fun st => match rs with
  | [.hdl j] => (match st.gs[j]? with
    | some (.tpl ns) => (match f ns with
      | some i => .ok (.dat (.int i)) st
      | none => .stuck)
    | _ => .stuck)
  | _ => .stuck) st0
theorem je_callH {id : String} {x : Str} {p : Pos} {r : List V → Hp → VK → Prop} {f : List Int → Option Int} (hc : CallR X (.builtin id) r) (hp : ∀ (a : Addr) (ns : List Int) (H : Hp) (Q : VK) (i : Int), SqT X.K H a (ns.map V.int) → f ns = some i → Q (.int i) H → r [.ref a] H Q) (hm : X.mg x = none) (hv : bootBuiltins x = some (.builtin id)) (ha : JA X N W [e] mr)
    (hg : Gl X x := by rfl) (hn : x ≠ "__name__" := by decide) (hdb : (x == ("__debug__" : Str)) = false := by decide) (he : starEach [e] X.env = (false, eval e X.env) :: starEach [] X.env := by rfl) (hpl : (backTo pos (starEach [] X.env)).any (·.1) = false := by rfl) : JE X N W (.Call (.Name x p) [e] [] pos) (mCallH f mr) := by
  refine PE.weak (pe_callB hc hg hm hv ha hn hdb he hpl) fun σ H Q ⟨L, as1, st, rel, h⟩ => ?_
  refine sem_mono (fin_bind (P1 := VRels) rel h) fun vs H1 ⟨L3, as3, s3, rs, r3, v3, x3, f3⟩ => ?_
  split at f3
  · rename_i j
    obtain ⟨v, rfl, hv⟩ := VRels.one v3
    split at f3
    · rename_i ns eg
      obtain ⟨a0, o0, ev, hH, hd⟩ := r3.tpl hv eg
      subst ev
      split at f3
      · rename_i i ei
        exact hp a0 ns H1 Q i (.inl (.inr ⟨o0, hH⟩)) ei (fin_dat r3 f3 (Same.refl _) (.int i))
      · exact f3.elim
    · exact f3.elim
  · exact f3.elim
theorem len_h (K : PySem.W.Frag) (a : Addr) (ns : List Int) (H : Hp) (Q : VK) (i : Int) (h : SqT K H a (ns.map V.int)) (e : some (ns.length : Int) = some i) (q : Q (.int i) H) : rLenA K [.ref a] H Q := by
  cases e
  exact .inl ⟨a, _, rfl, .inr h, by rw [List.length_map]; exact q⟩
def minO : List Int → Option Int
  | [] => none
  | n :: ns => some (ns.foldl min n)
theorem min_h (K : PySem.W.Frag) (a : Addr) (ns : List Int) (H : Hp) (Q : VK) (i : Int) (h : SqT K H a (ns.map V.int)) (e : minO ns = some i) (q : Q (.int i) H) : rMinT K [.ref a] H Q := by
  cases ns with
  | nil => cases e
  | cons n ns =>
    cases e
    exact ⟨a, n, ns, rfl, h, q⟩
end
end JL
/-! J43: isinstance(h, tuple). -/
namespace JL
open PySem PySem.Spec PyProof.Rows L2
section
variable {X : Cx} {N : Ent} {W : WX} {e a b : Expr} {ma mb : M RV} {mr : M (List RV)} {pos : Pos}
@[simp] def mIsTupH (ma : M RV) (st0 : ST) : R RV := (ma.bind fun a => fun st => match a with
  | .hdl j => (match st.gs[j]? with
    | some (.tpl _) => .ok (.dat (.bool true)) st
    | _ => .stuck)
  | _ => .stuck) st0
theorem je_isTupH {p p2 : Pos} (ha : JE X N W a ma) (hm : X.mg "isinstance" = none) (hmT : X.mg "tuple" = none)
    (hg : Gl X "isinstance" := by rfl) (hgT : Gl X "tuple" := by rfl)
    (he1 : starEach [a, .Name "tuple" p2] X.env = (false, eval a X.env) :: starEach [.Name "tuple" p2] X.env := by rfl) (he2 : starEach [.Name "tuple" p2] X.env = (false, eval (.Name "tuple" p2) X.env) :: starEach [] X.env := by rfl) (hpl : (backTo pos (starEach [.Name "tuple" p2] X.env)).any (·.1) = false := by rfl) :
    JE X N W (.Call (.Name "isinstance" p) [a, .Name "tuple" p2] [] pos) (mIsTupH ma) := by
  refine PE.weak (pe_callB call_isi hg hm (by decide +kernel) (pa_cons ha (pa_cons (pe_bltn (v := .ty "tuple") hgT hmT (by decide +kernel) rfl (by decide) (by decide)) pa_nil he2) he1) (by decide) (by decide) he1 hpl) fun σ H Q ⟨L, as1, st, rel, h⟩ => ?_
  refine sem_mono (fin_bind (P1 := VRel) rel h) fun v H1 ⟨L3, as3, s3, rv, r3, v3, x3, f3⟩ => ?_
  split at f3
  · rename_i j
    split at f3
    · rename_i ns eg
      obtain ⟨a0, o0, ev, hH, hd⟩ := r3.tpl v3 eg
      subst ev
      exact ⟨.ref a0, .ty "tuple", .type "tuple", .type "tuple", true, rfl, .ty "tuple", .fTuple hH, kit_ty (by decide +kernel), fin_dat r3 f3 (Same.refl _) (.bl true)⟩
    · exact f3.elim
  · exact f3.elim
end
end JL
/-! J44: h[k]. -/
namespace JL
open PySem PySem.Spec PyProof.Rows L2
theorem atI_map {α β : Type} (f : α → β) {xs : List α} {i : Int} {x : α} (h : atI xs i = some x) : atI (xs.map f) i = some (f x) := by
  unfold atI at h ⊢
  rw [List.length_map]
  cases e : ixN xs.length i with
  | none => rw [e] at h; simp at h
  | some n =>
    rw [e] at h
    simp at h ⊢
    exact ⟨x, h, rfl⟩
section
variable {X : Cx} {N : Ent} {W : WX} {e a b : Expr} {ma mb : M RV} {mr : M (List RV)} {pos : Pos}
@[simp] def mIxH (ma mb : M RV) (st0 : ST) : R RV := (ma.bind fun a => mb.bind fun b => fun st => match a, st.look b with
  | .hdl j, some (.int i) => (match st.gs[j]? with
    | some (.tpl ns) => (match atI ns i with
      | some z => .ok (.dat (.int z)) st
      | none => .stuck)
    | _ => .stuck)
  | _, _ => .stuck) st0
theorem je_ixH (ha : JE X N W a ma) (hb : JE X N W b mb) (hs : PlainIx b := by exact fun _ _ => rfl) : JE X N W (.Subscript a b pos) (mIxH ma mb) := by
  refine PE.weak (pe_ix ix_tup ha hb hs) fun σ H Q ⟨L, as1, st, rel, h⟩ => ?_
  refine sem_mono (fin_bind (P1 := VRel) rel h) fun v H1 ⟨L3, as3, s3, rv, r3, v3, x3, f3⟩ => ?_
  refine sem_mono (fin_bind (P1 := VRel) r3 f3) fun u H2 ⟨L4, as4, s4, ru, r4, v4, x4, f4⟩ => ?_
  split at f4
  · rename_i x1 x2 j i e1 hx
    split at f4
    · rename_i ns eg
      obtain ⟨a0, o0, ev, hH, hd⟩ := r4.tpl (v3.ext x4) eg
      subst ev
      have hu := (r4.look v4 e1).int
      subst hu
      split at f4
      · rename_i z ez
        exact ⟨a0, _, i, .int z, rfl, rfl, .inl (.inr ⟨o0, hH⟩), atI_map V.int ez, fin_dat r4 f4 (Same.refl _) (.int z)⟩
      · exact f4.elim
    · exact f4.elim
  · exact f4.elim
end
end JL
/-! J45: a comprehension over a tuple known whole: nothing of the store is touched. -/
namespace JL
open PySem PySem.Spec PyProof.Rows L2 JZ
def sand : SV → SV
  | .dat d => .dat d
  | _ => .un
/-- the state as one sees it who may touch nothing -/
def sandS (st : ST) : ST := { sl := st.sl.map sand, gs := [] }
section
variable {N : Ent} {L : List Addr} {as1 : List (List Addr)} {st : ST} {σ : L2.St} {H H' : Hp} {i : Nat}
mutual
theorem At.avoid {F G : Hp} (s : ∀ p o, F p = some o → (∃ x y, o = .frz x y) ∨ G p = some o) : ∀ {v : V} {d : PyData}, At F v d → At G v d
  | _, _, .non => .non
  | _, _, .bl b => .bl b
  | _, _, .int i => .int i
  | _, _, .str x => .str x
  | _, _, .lst h r => by
    rcases s _ _ h with ⟨x, y, e⟩ | e
    · cases e
    · exact .lst e (Ats.avoid s r)
  | _, _, .tup h r => by
    rcases s _ _ h with ⟨x, y, e⟩ | e
    · cases e
    · exact .tup e (Ats.avoid s r)
theorem Ats.avoid {F G : Hp} (s : ∀ p o, F p = some o → (∃ x y, o = .frz x y) ∨ G p = some o) : ∀ {vs : List V} {ds : List PyData}, Ats F vs ds → Ats G vs ds
  | _, _, .nil => .nil
  | _, _, .cons h r => .cons (At.avoid s h) (Ats.avoid s r)
end
abbrev sandN (N : Ent) (L : List Addr) (H : Hp) : Ent := ⟨[], L, H, N.cls⟩
theorem sand_dat {i : Nat} {d : PyData} (h : (sandS st).sl[i]? = some (.dat d)) : st.sl[i]? = some (.dat d) := by
  unfold sandS at h
  simp only [List.getElem?_map] at h
  cases e : st.sl[i]? with
  | none => rw [e] at h; cases h
  | some x =>
    rw [e] at h
    cases x <;> simp [sand] at h
    subst h
    rfl
theorem sand_own {i : Nat} {ds : List PyData} (h : (sandS st).sl[i]? = some (.own ds)) : False := by
  unfold sandS at h
  simp only [List.getElem?_map] at h
  cases e : st.sl[i]? with
  | none => rw [e] at h; cases h
  | some x =>
    rw [e] at h
    cases x <;> simp [sand] at h
theorem sand_hdl {i j : Nat} (h : (sandS st).sl[i]? = some (.hdl j)) : False := by
  unfold sandS at h
  simp only [List.getElem?_map] at h
  cases e : st.sl[i]? with
  | none => rw [e] at h; cases h
  | some x =>
    rw [e] at h
    cases x <;> simp [sand] at h
theorem Rel.sand (r : Rel N L as1 st σ H) (w : Addr) : Rel (sandN N (L.filter (· ≠ w)) H) (L.filter (· ≠ w)) [] (sandS st) σ H where
  len := by
    unfold sandS
    rw [List.length_map]
    exact r.len
  l0 := fun a h => r.live a (List.mem_filter.mp h).1
  sub := fun a h => h
  new := fun a h => .inl h
  live := fun a h => r.live a (List.mem_filter.mp h).1
  frame := fun p o h _ => h
  dat := fun i d e => by
    obtain ⟨v, q, h⟩ := r.dat i d (sand_dat e)
    exact ⟨v, q, h.mono (mask_less fun b hb => (List.mem_filter.mp hb).1)⟩
  own := fun i ds e => (sand_own e).elim
  owd := fun i j ds es _ e _ => (sand_own e).elim
  hdl := fun i j e => (sand_hdl e).elim
  g := ⟨rfl, fun j go fp e f => by simp [sandS] at e, fun fp h => absurd h (by simp), List.nodup_nil⟩
  gnew := fun a h => by simp at h
  hd := ⟨Nat.zero_le _, fun j a fp h => by simp at h⟩
  nt := fun a h => r.nt a (List.mem_filter.mp h).1
  ent := fun a h => by simp at h
/-- back from the sand: all objects stand -/
theorem Rel.unsand {w : Addr} {L' : List Addr} {as' : List (List Addr)} {st2 : ST} {σ2 : L2.St} (r : Rel N L as1 st σ H) (r2 : Rel (sandN N (L.filter (· ≠ w)) H) L' as' st2 σ2 H') : Same H H' := fun p o h => r2.frame p o h (by simp)
end
section
variable {X : Cx} {N : Ent} {W : WX} {e a b : Expr} {ma mb : M RV} {mr : M (List RV)} {pos : Pos}
/-- a list comprehension over a tuple known whole -/
@[simp] def mLcH (vs : List Nat) (i : Nat) (ma : M RV) (tt : M Bool) (el : M RV) (st0 : ST) : R RV := (ma.bind fun a => fun st => match a with
  | .hdl j => (match st.gs[j]? with
    | some (.tpl ns) => (match compAll vs (putDat i) tt el (ns.map .int) (sandS st) with
      | .ok (.dat d) _ => .ok (.dat d) st
      | _ => .stuck)
    | _ => .stuck)
  | _ => .stuck) st0
def SrcX (p : Addr) (ns : List Int) (L : List Addr) (H : Hp) : Prop := ∃ o, mask H L p = some (.frz o (.tup (ns.map V.int)))
theorem yields_tupX {K : PySem.W.Frag} (p : Addr) (ns : List Int) : Yields N (Itt K p) (ns.map .int) (SrcX p ns) where
  mono := fun L H L' H' s ⟨o, h⟩ => ⟨o, s _ _ h⟩
  go := fun i L H hi ⟨o, h1⟩ => ⟨ns.map V.int, .int (ns[i]'(by rw [List.length_map] at hi; exact hi)), .inl (.inr ⟨o, mask_same _ _ h1⟩), by rw [List.length_map] at hi; simp [hi]⟩
  stop := fun L H ⟨o, h1⟩ => ⟨ns.map V.int, .inl (.inr ⟨o, mask_same _ _ h1⟩), by rw [List.length_map, List.length_map]; exact Nat.le_refl _⟩
  yld := fun i d L H hd _ ⟨o, h1⟩ x H' ⟨e, y⟩ => by
    subst e
    have := y _ (.inl (.inr ⟨o, mask_same _ _ h1⟩))
    obtain ⟨v, g1, g2⟩ := (ats_ints (H := mask H' L) ns).get hd
    rw [g1] at this
    cases this
    exact ⟨Same.refl _, g2⟩
def exT (cls : Cl) (tt : M Bool) : TT := fun σ H Q => ∃ (as0 : List (List Addr)) (L0 : List Addr) (H0 : Hp), semT ⟨as0, L0, H0, cls⟩ W0 tt σ H Q
def exE (cls : Cl) (el : M RV) : TE := fun σ H Q => ∃ (as0 : List (List Addr)) (L0 : List Addr) (H0 : Hp), semE ⟨as0, L0, H0, cls⟩ W0 el σ H Q
theorem sem_lcH {vs : List Nat} {i : Nat} (hi : i ∈ vs) {tt : M Bool} {el : M RV} {K : PySem.W.Frag} {σ : L2.St} {H : Hp} {Q : VK} (h : semE N W (mLcH vs i ma tt el) σ H Q) : tLc (iSeq K (semE N W ma)) (gName i) (exT N.cls tt) (exE N.cls el) vs σ H Q := by
  obtain ⟨L, as1, st, rel, h⟩ := h
  refine sem_mono (fin_bind (P1 := VRel) rel h) fun v H1 ⟨L3, as3, s3, rv, r3, v3, x3, f3⟩ => ?_
  split at f3
  · rename_i j
    split at f3
    · rename_i ns eg
      obtain ⟨w, o0, ev, hH, hd⟩ := r3.tpl v3 eg
      subst ev
      refine .inr ⟨w, rfl, ⟨_, .inl (.inr ⟨o0, hH⟩)⟩, ?_⟩
      have rs := r3.sand w
      have nw : w ∉ L3.filter (· ≠ w) := fun z => by
        have := (List.mem_filter.mp z).2
        simp at this
      have fs : Fin (sandN N (L3.filter (· ≠ w)) H1) W VRel (L3.filter (· ≠ w)) [] σ H1 (compAll vs (putDat i) tt el (ns.map .int) (sandS s3)) Q := by
        cases ec : compAll vs (putDat i) tt el (ns.map .int) (sandS s3) with
        | stuck => rw [ec] at f3; exact f3.elim
        | exc c st' => rw [ec] at f3; exact f3.elim
        | ok rv st' =>
          rw [ec] at f3
          cases rv with
          | bor _ => exact f3.elim
          | hdl _ => exact f3.elim
          | dat d =>
            intro L' as' v H' r2 hv x2
            have sm := r3.unsand r2
            have hv' : At (mask H' L') v d := hv
            have sub : ∀ a ∈ L3, a ∈ w :: L' := fun a ha => by
              by_cases z : a = w
              · rw [z]; exact List.mem_cons_self
              · exact List.mem_cons_of_mem _ (r2.sub a (List.mem_filter.mpr ⟨ha, by simpa using z⟩))
            have hw' : H' w = some (.frz o0 (.tup (ns.map V.int))) := sm _ _ hH
            have hv2 : At (mask H' L3) v d := hv'.avoid fun p o hp => by
              obtain ⟨q1, q2⟩ := of_mask hp
              by_cases z : p = w
              · subst z
                rw [hw'] at q1
                cases q1
                exact .inl ⟨_, _, rfl⟩
              · refine .inr (mask_of q1 fun z2 => ?_)
                rcases List.mem_cons.mp (sub p z2) with z3 | z3
                · exact z z3
                · exact q2 z3
            exact f3 L3 as3 v H' (r3.grow sm) hv2 (Ext.grow sm)
      intro D nD
      obtain ⟨Wv, h1, h2⟩ := comp_yields (W := W) (yields_tupX (K := K) w ns) (put_nameOk hi) rs ⟨o0, mask_of hH nw⟩ fs D nD
      refine ⟨Wv, h1, fun k m Hc hw => ?_⟩
      rcases h2 k m Hc hw with q | ⟨q1, Nx, q2, q3⟩
      · exact .inl q
      · refine .inr ⟨q1, Nx, q2, fun x H' y => ?_⟩
        obtain ⟨g1, g2⟩ := q3 x H' y
        refine ⟨g1, _, _, _, sem_mono g2 fun b H3 q => ?_⟩
        cases b with
        | false => exact q
        | true => exact ⟨_, _, _, q⟩
    · exact f3.elim
  · exact f3.elim
variable {elt : Expr} {ifs : List Expr} {scope : Scope} {own : List (Str × Nat)} {tt : M Bool} {el : M RV}
theorem je_lcH {i : Nat} {x : Str} {px : Pos} (hN : X.N.Nodup) (hs : JE X N W e ma) (ok : BlkOk X.N X.env.scope scope own) (hg : ∀ (s : Shared) (H : Hp) (C : Addr) (cl : List (Str × Addr)) (fp : List Addr), PG (X.blk s H scope (compEnvC scope cl C X.env) fp) (.Name x px) (gName i))
    (ht : ∀ (as0 : List (List Addr)) (L0 : List Addr) (H0 : Hp) (s : Shared) (H : Hp) (C : Addr) (cl : List (Str × Addr)) (fp : List Addr), JTs (X.blk s H scope (compEnvC scope cl C X.env) fp) ⟨as0, L0, H0, N.cls⟩ ifs tt)
    (he : ∀ (as0 : List (List Addr)) (L0 : List Addr) (H0 : Hp) (s : Shared) (H : Hp) (C : Addr) (cl : List (Str × Addr)) (fp : List Addr), JE (X.blk s H scope (compEnvC scope cl C X.env) fp) ⟨as0, L0, H0, N.cls⟩ W0 elt el)
    (hi : i ∈ own.map (·.2) := by decide) (hc : X.calm = true := by rfl) (hfs : ∀ z, foldedSetIterable e X.env z = pure z := by intro _; rfl) : JE X N W (.ListComp elt [⟨.Name x px, e, ifs, 0⟩] scope pos) (mLcH (own.map (·.2)) i ma tt el) :=
  PE.weak (pe_lc (tt := exT N.cls tt) (te := exE N.cls el) hc hN (pi_seq hs) ok hg (fun s H C cl fp => ⟨fun pins s' σ H' Q I ⟨as0, L0, H0, h⟩ => (ht as0 L0 H0 s H C cl fp).run pins s' σ H' Q I h⟩) (fun s H C cl fp => ⟨fun pins s' σ H' Q I ⟨as0, L0, H0, h⟩ => (he as0 L0 H0 s H C cl fp).run pins s' σ H' Q I h⟩) hfs) fun σ H Q h => sem_lcH hi h
end
section
variable {X : Cx} {N : Ent} {W : WX} {e a b : Expr} {ma mb : M RV} {mr : M (List RV)} {pos : Pos}
/-- len({x: True for x in h}) -/
@[simp] def mLenDCH (i : Nat) (ma : M RV) (st0 : ST) : R RV := (ma.bind fun r => fun st => match r with
  | .hdl j => (match st.gs[j]? with
    | some (.tpl ns) => if i < st.sl.length ∧ ns.length ≤ maxLen then .ok (.dat (.int (nubI ns []).length)) st else .stuck
    | _ => .stuck)
  | _ => .stuck) st0
theorem je_lenDCH {i : Nat} {x : Str} {px px2 p p1 p2 : Pos} {k0 : Nat} {scope : Scope} {own : List (Str × Nat)} (hN : X.N.Nodup) (hm : X.mg "len" = none) (he : JE X N W e ma) (ok : BlkOk X.N X.env.scope scope own)
    (hg : ∀ (s : Shared) (H : Hp) (C : Addr) (cl : List (Str × Addr)) (fp : List Addr), PG (X.blk s H scope (compEnvC scope cl C X.env) fp) (.Name x px) (gName i))
    (hk : ∀ (s : Shared) (H : Hp) (C : Addr) (cl : List (Str × Addr)) (fp : List Addr), PE (X.blk s H scope (compEnvC scope cl C X.env) fp) (.Name x px2) (tVar i))
    (hi : i ∈ own.map (·.2) := by decide) (hc : X.calm = true := by rfl) (hgl : Gl X "len" := by rfl) (hfs : ∀ z, foldedSetIterable e X.env z = pure z := by intro _; rfl)
    (h1 : starEach [.DictComp (.Name x px2) (.Constant (.bool true) k0 p1) [⟨.Name x px, e, [], 0⟩] scope p2] X.env = (false, eval (.DictComp (.Name x px2) (.Constant (.bool true) k0 p1) [⟨.Name x px, e, [], 0⟩] scope p2) X.env) :: starEach [] X.env := by rfl) :
    JE X N W (.Call (.Name "len" p) [.DictComp (.Name x px2) (.Constant (.bool true) k0 p1) [⟨.Name x px, e, [], 0⟩] scope p2] [] pos) (mLenDCH i ma) := by
  refine PE.weak (pe_callB call_lenD hgl hm PySem.boot_len (pa_cons (pe_dc hc hN (pi_seq he) ok hg (fun _ _ _ _ _ => pts_nil) hk (fun _ _ _ _ _ => pe_bl) hfs) pa_nil h1) (by decide) (by decide) h1) fun σ H Q ⟨L, as1, st, rel, h⟩ => ?_
  refine sem_mono (fin_bind (P1 := VRel) rel h) fun v H1 ⟨L3, as3, s3, rv, r3, v3, x3, f3⟩ => ?_
  split at f3
  · rename_i j
    split at f3
    · rename_i ns eg
      split at f3
      · rename_i hl
        obtain ⟨p, o0, ev, hp, hd⟩ := r3.tpl v3 eg
        subst ev
        have sq : ∀ Hc : Hp, Hc p = some (.frz o0 (.tup (ns.map V.int))) → SqT X.K Hc p (ns.map V.int) := fun Hc h => .inl (.inr ⟨o0, h⟩)
        refine .inr ⟨p, rfl, ⟨_, sq _ hp⟩, fun D nD => ?_⟩
        have npD : p ≠ D := ne_of_none hp nD
        refine ⟨fun k m Hc => m = ns.length - k ∧ k ≤ ns.length ∧ Hc = upd H1 D (.dK (kvOf (nubI (ns.take k) []))), ⟨_, rfl, Nat.zero_le _, rfl⟩, ?_⟩
        rintro k m Hc ⟨rfl, hk', rfl⟩
        have hpc : (upd H1 D (.dK (kvOf (nubI (ns.take k) [])))) p = some (.frz o0 (.tup (ns.map V.int))) := by rw [upd_ne npD]; exact hp
        by_cases hlt : k < ns.length
        · have hget : ns[k]? = some ns[k] := List.getElem?_eq_getElem hlt
          refine .inr ⟨⟨_, .int ns[k], sq _ hpc, by rw [List.getElem?_map, hget]; rfl⟩, fun H' => H' = upd H1 D (.dK (kvOf (nubI (ns.take (k + 1)) []))), fun H' q => ⟨_, by omega, rfl, hlt, q⟩, fun y H' hy => ?_⟩
          obtain ⟨rfl, hy⟩ := hy
          have ey : y = .int ns[k] := by
            have := hy _ (sq _ hpc)
            rw [List.getElem?_map, hget] at this
            exact (Option.some.inj this).symm
          subst ey
          refine ⟨by rw [wipe_set hi, wipe_wipe], ?_⟩
          unfold tYes
          dsimp only
          rw [if_pos rfl]
          refine ⟨.int ns[k], List.getElem?_set_self (by rw [wipe_len, ← r3.len]; exact hl.1), ?_⟩
          refine ⟨kvOf (nubI (ns.take k) []), .inl ns[k], rfl, upd_same, ?_, ?_⟩
          · have h1 := nubI_len (ns.take k) []
            rw [List.length_take] at h1
            have h2 : (kvOf (nubI (ns.take k) [])).length = (nubI (ns.take k) []).length := List.length_map _
            have hm : maxLen < sizeLine := by decide
            have := hl.2
            simp only [List.length_nil] at h1
            omega
          · show upd (upd H1 D _) D _ = _
            rw [upd_upd, putK_kvOf, nubI_step ns [] k ns[k] hget]
        · have ek : k = ns.length := by omega
          subst ek
          rw [List.take_length]
          refine .inl ⟨⟨_, sq _ (by rw [List.take_length] at hpc; exact hpc), by rw [List.length_map]; exact Nat.le_refl _⟩, D, _, rfl, upd_same, ?_⟩
          have h2 : (kvOf (nubI ns [])).length = (nubI ns []).length := List.length_map _
          rw [h2]
          exact fin_dat r3 f3 (same_new nD) (.int _)
      · exact f3.elim
    · exact f3.elim
  · exact f3.elim
/-- {k: v for k, v in zip(list, h)} -/
@[simp] def mDcZH (i j pk pv : Nat) (mr : M (List RV)) (st0 : ST) : R RV := (mr.bind fun rs => fun st => match escAll rs st with
  | some ([.dat (.list ds), .hdl t], st') => (match st'.gs[t]? with
    | some (.tpl ns) => (match dictOf pk pv (zipD ds (ns.map .int)) [] with
      | some kvs => if i < st'.sl.length ∧ j < st'.sl.length ∧ i ≠ j ∧ (zipD ds (ns.map .int)).length < maxLen then .ok (.hdl st'.gs.length) { st' with gs := st'.gs ++ [.dk kvs] } else .stuck
      | none => .stuck)
    | _ => .stuck)
  | _ => .stuck) st0
variable {scope : Scope} {own : List (Str × Nat)}
theorem je_dcZH {tgs : List Expr} {kk i j pk pv : Nat} {kx vx : Expr} {pt p pe : Pos} (hN : X.N.Nodup) (hm : X.mg "zip" = none) (ha : JA X N W [a, b] mr) (ok : BlkOk X.N X.env.scope scope own)
    (hgs : ∀ (s : Shared) (H : Hp) (C : Addr) (cl : List (Str × Addr)) (fp : List Addr), PGs (X.blk s H scope (compEnvC scope cl C X.env) fp) tgs (gAll [i, j]))
    (hk : ∀ (s : Shared) (H : Hp) (C : Addr) (cl : List (Str × Addr)) (fp : List Addr), PE (X.blk s H scope (compEnvC scope cl C X.env) fp) kx (tVar (if pk = 0 then i else j)))
    (hv : ∀ (s : Shared) (H : Hp) (C : Addr) (cl : List (Str × Addr)) (fp : List Addr), PE (X.blk s H scope (compEnvC scope cl C X.env) fp) vx (tVar (if pv = 0 then i else j)))
    (hst2 : ∀ (s : Shared) (H : Hp) (C : Addr) (cl : List (Str × Addr)) (fp : List Addr), (X.blk s H scope (compEnvC scope cl C X.env) fp).calm = true ∧ (assignEach tgs (X.blk s H scope (compEnvC scope cl C X.env) fp).env).length = 2 ∧ (assignEach tgs (X.blk s H scope (compEnvC scope cl C X.env) fp).env).findIdx? (·.1) = none)
    (hpk : pk = 0 ∨ pk = 1 := by decide) (hpv : pv = 0 ∨ pv = 1 := by decide)
    (hiv : i ∈ own.map (·.2) := by decide) (hjv : j ∈ own.map (·.2) := by decide) (hc : X.calm = true := by rfl) (hgl : Gl X "zip" := by rfl) (hs : starEach [a, b] X.env = (false, eval a X.env) :: starEach [b] X.env := by rfl) (hpl : (backTo pe (starEach [b] X.env)).any (·.1) = false := by rfl)
    (hfs : ∀ z, foldedSetIterable (.Call (.Name "zip" p) [a, b] [] pe) X.env z = pure z := by intro _; rfl) :
    JE X N W (.DictComp kx vx [⟨.Tuple tgs kk pt, .Call (.Name "zip" p) [a, b] [] pe, [], 0⟩] scope pos) (mDcZH i j pk pv mr) := by
  refine PE.weak (pe_dc (g := gTup X.K 2 (gAll [i, j])) hc hN (pi_zipM hgl hm ha hs hpl) ok (fun s H C cl fp => pg_tup (hst2 s H C cl fp).1 (hgs s H C cl fp) (hst2 s H C cl fp).2.1 (hst2 s H C cl fp).2.2) (fun _ _ _ _ _ => pts_nil) hk hv hfs) fun σ H Q ⟨L, as1, st, rel, h⟩ => ?_
  refine sem_mono (fin_bind (P1 := VRels) rel h) fun vs H1 ⟨L3, as3, s3, rs, r3, v3, x3, f3⟩ => ?_
  cases e1 : escAll rs s3 with
  | none => rw [e1] at f3; exact f3.elim
  | some pq =>
    obtain ⟨q, s4⟩ := pq
    rw [e1] at f3
    obtain ⟨L4, r4, x4, v4, n4⟩ := Rel.escAll r3 v3 e1
    split at f3
    · rename_i ds t st' ez
      cases ez
      split at f3
      · rename_i ns eg
        have f4 := Fin.from f3 x4
        split at f4
        · rename_i kvs hd
          split at f4
          · rename_i hl
            obtain ⟨l1, l2, l3, l4⟩ := hl
            have fin : ∀ D, H1 D = none → ∀ Hc ws, Same H1 Hc → Hc D = some (.dK ws) → KAll (mask H1 L4) ws kvs → Q (.ref D) Hc := fun D nD Hc zs sm hD hall => by
              obtain ⟨r5, x5⟩ := r4.newD nD sm hD hall
              refine f4 _ _ (.ref D) Hc r5 ⟨D, [], ?_, rfl⟩ x5
              have gl : s4.gs.length = as3.length := r4.g.glen.symm
              rw [gl, List.getElem?_append_right (Nat.le_refl _), Nat.sub_self]
              rfl
            have li : i < σ.length := by rw [← r4.len]; exact l1
            have lj : j < σ.length := by rw [← r4.len]; exact l2
            obtain ⟨v, w, rfl, hv, hw⟩ := VRels.two v4
            obtain ⟨p1, rfl, src1⟩ := at_list hv
            obtain ⟨p2, o2, ev, w2, _⟩ := r4.tpl hw eg
            subst ev
            obtain ⟨us, h1, a1⟩ := id src1
            have w1 : H1 p1 = some (.lst us) := mask_same _ _ h1
            exact ⟨p1, p2, us, ns.map V.int, rfl, .inl ⟨SqL.of w1, .inl (.inr ⟨o2, w2⟩), fun D nD => dc_zip li lj l3 hpk hpv hiv hjv l4 nD (fun Hc sm => SqL.of (sm _ _ w1)) (fun Hc sm => .inl (.inr ⟨o2, sm _ _ w2⟩)) a1 (ats_ints ns) hd (fin D nD)⟩⟩
          · exact f4.elim
        · exact f4.elim
      · exact f3.elim
    · exact f3.elim
end
end JL
/-! J46: the seven classes of exceptions over one base, by number. -/
namespace JL
open PySem PySem.Spec PyProof.Rows L2
/-- the names: 0 the base, 1 to 7 the others -/
def errN : Nat → Str
  | 0 => "TreeError" | 1 => "BadTree" | 2 => "BadKey" | 3 => "BadKeys" | 4 => "BadNumber" | 5 => "BadValues" | 6 => "BadText" | _ => "NotFound"
/-- c is a kind of y: 8 is ValueError -/
def isE (c y : Nat) : Bool := y == 0 || y == 8 || c == y
def okE (c : Nat) : Bool := decide (1 ≤ c) && decide (c ≤ 7)
theorem okE_iff {c : Nat} (h : okE c = true) : 1 ≤ c ∧ c ≤ 7 := by
  simpa [okE] using h
structure Errs (K : PySem.W.Frag) (mg : Str → Option Value) (cls : Cl) where
  ad : Nat → Addr
  g : ∀ y, y ≤ 7 → mg (errN y) = some (.ref (ad y))
  x : ∀ c, okE c = true → ExcT K mg (errN c) (ad c)
  L : ∀ c, okE c = true → cls c = .ref (ad c)
  k : ∀ c y, okE c = true → y ≤ 7 → PySem.W.kitOne K (.ref (ad c)) (.ref (ad y)) = some (isE c y)
  e : ∀ c, okE c = true → PySem.W.exmOne K (.ref (ad c)) (.ref (ad 0)) = some true
section
variable {X : Cx} {N : Ent} {W : WX} {a b : Expr} {ma : M RV} {pos : Pos}
theorem js_raiseE {cls : Cl} (E : Errs X.K X.mg cls) (hcl : N.cls = cls) (c : Nat) {x m : Str} {j : Nat} {p p2 pos' : Pos} (hx : x = errN c) (tk : Takes X W) (ho : okE c = true := by rfl) (hc : X.calm = true := by rfl) (hg : Gl X x := by rfl) (hdb : (x == ("__debug__" : Str)) = false := by decide) :
    JS X N W (.Raise (some (.Call (.Name x p) [.Constant (.str m) j p2] [] pos')) none pos) (mRaise c) := by
  subst hcl
  subst hx
  have T := E.x c ho
  exact js_raise (c := c) PySem.F.excBase_ValueError T.x T.g T.k (raises_own T.b T.t) (E.L c ho) tk hc hg hdb
/-- isinstance(e, C), e an exception -/
def mIsE (y : Nat) (ma : M RV) (st0 : ST) : R RV := (ma.bind fun r => fun st => match r with
  | .hdl j => (match st.gs[j]? with
    | some (.exn c) => if okE c = true then .ok (.dat (.bool (isE c y))) st else .stuck
    | _ => .stuck)
  | _ => .stuck) st0
theorem sem_isE {cls : Cl} (E : Errs X.K X.mg cls) (hcl : N.cls = cls) {y : Nat} {cl : V} {cv : Value} (hcv : ∀ u, RelV cl u → u = cv) (hk : ∀ c, okE c = true → PySem.W.kitOne X.K (.ref (E.ad c)) cv = some (isE c y)) {σ : L2.St} {H : Hp} {Q : VK} (h : semE N W (mIsE y ma) σ H Q) :
    semE N W ma σ H fun v H1 => rIsX X.K [v, cl] H1 Q := by
  subst hcl
  obtain ⟨L, as1, st, rel, h⟩ := h
  refine sem_mono (fin_bind (P1 := VRel) rel h) fun v H1 ⟨L3, as3, s3, rv, r3, v3, x3, f3⟩ => ?_
  cases rv with
  | dat d => exact f3.elim
  | bor i => exact f3.elim
  | hdl j =>
    dsimp only at f3
    split at f3
    · rename_i c e1
      by_cases hcc : okE c = true
      · rw [if_pos hcc] at f3
        obtain ⟨w, fp, q1, q2⟩ := v3
        obtain ⟨w', ew, hw⟩ := r3.g.gok j _ _ e1 q1
        injection ew with e2 e3
        subst e2
        subst q2
        rw [E.L c hcc] at hw
        exact ⟨w, E.ad c, cl, cv, isE c y, rfl, hw, (E.x c hcc).e, hcv, hk c hcc, fin_dat r3 f3 (Same.refl _) (.bl _)⟩
      · rw [if_neg hcc] at f3; exact f3.elim
    · exact f3.elim
theorem je_isE {cls : Cl} (E : Errs X.K X.mg cls) (hcl : N.cls = cls) (y : Nat) {x : Str} {p p2 : Pos} (hx : x = errN y) (ha : JE X N W a ma) (hm : X.mg "isinstance" = none) (hy : y ≤ 7 := by decide) (hg : Gl X "isinstance" := by rfl) (hgx : Gl X x := by rfl) (hdb : (x == ("__debug__" : Str)) = false := by decide)
    (he : starEach [a, .Name x p2] X.env = (false, eval a X.env) :: starEach [.Name x p2] X.env := by rfl) (he2 : starEach [.Name x p2] X.env = (false, eval (.Name x p2) X.env) :: starEach [] X.env := by rfl) (hpl : (backTo pos (starEach [.Name x p2] X.env)).any (·.1) = false := by rfl) :
    JE X N W (.Call (.Name "isinstance" p) [a, .Name x p2] [] pos) (mIsE y ma) := by
  subst hx
  exact PE.weak (pe_callB call_isX hg hm (by decide +kernel) (pa_cons ha (pa_cons (pe_glob (v := .ref (E.ad y)) hgx (E.g y hy) rfl hdb) pa_nil he2) he) (by decide) (by decide) he hpl) fun σ H Q h => sem_isE E hcl (cl := .ref (E.ad y)) (cv := .ref (E.ad y)) (fun u h => h) (fun c hc => E.k c y hc hy) h
theorem je_isVE {cls : Cl} (E : Errs X.K X.mg cls) (hcl : N.cls = cls) {p p2 : Pos} (ha : JE X N W a ma) (hm : X.mg "isinstance" = none) (hmv : X.mg "ValueError" = none) (hg : Gl X "isinstance" := by rfl) (hgx : Gl X "ValueError" := by rfl)
    (he : starEach [a, .Name "ValueError" p2] X.env = (false, eval a X.env) :: starEach [.Name "ValueError" p2] X.env := by rfl) (he2 : starEach [.Name "ValueError" p2] X.env = (false, eval (.Name "ValueError" p2) X.env) :: starEach [] X.env := by rfl) (hpl : (backTo pos (starEach [.Name "ValueError" p2] X.env)).any (·.1) = false := by rfl) :
    JE X N W (.Call (.Name "isinstance" p) [a, .Name "ValueError" p2] [] pos) (mIsE 8 ma) :=
  PE.weak (pe_callB call_isX hg hm (by decide +kernel) (pa_cons ha (pa_cons (pe_bltn (v := .ty "ValueError") hgx hmv (by decide +kernel) rfl) pa_nil he2) he) (by decide) (by decide) he hpl) fun σ H Q h => sem_isE E hcl (y := 8) (cl := .ty "ValueError") (cv := .type "ValueError") (fun u h => h) (fun c hc => (E.x c hc).v) h
theorem exmE {K : PySem.W.Frag} {mg : Str → Option Value} {cls : Cl} (E : Errs K mg cls) : ∀ c, okE c = true → PySem.W.exmOne K (cls c) (.ref (E.ad 0)) = some true := fun c hc => by
  rw [E.L c hc]
  exact E.e c hc
/-- the classes' facts, one by one -/
def errA (a0 a1 a2 a3 a4 a5 a6 a7 : Addr) : Nat → Addr
  | 0 => a0 | 1 => a1 | 2 => a2 | 3 => a3 | 4 => a4 | 5 => a5 | 6 => a6 | _ => a7
theorem okE_cases {c : Nat} (h : okE c = true) : c = 1 ∨ c = 2 ∨ c = 3 ∨ c = 4 ∨ c = 5 ∨ c = 6 ∨ c = 7 := by
  have := okE_iff h
  omega
end
end JL
/-! J47: an object of the store changes, with the addresses that it holds; the fields of an instance. -/
namespace JL
open PySem PySem.Spec PyProof.Rows L2
theorem flatten_set_nodup {α : Type} {nw : List α} {new old : List α} : ∀ {as : List (List α)} {j : Nat}, as.flatten.Nodup → as[j]? = some old → new.Nodup → (∀ b ∈ new, b ∈ old ∨ b ∈ nw) → (∀ b ∈ nw, b ∉ as.flatten) → (as.set j new).flatten.Nodup
  | [], _, _, h, _, _, _ => by simp at h
  | x :: xs, 0, nd, h, hn, hs, hw => by
    rw [List.getElem?_cons_zero] at h
    cases h
    rw [List.set_cons_zero, List.flatten_cons]
    rw [List.flatten_cons] at nd
    obtain ⟨n1, n2, n3⟩ := List.nodup_append.mp nd
    refine List.nodup_append.mpr ⟨hn, n2, fun a ha b hb e => ?_⟩
    subst e
    rcases hs a ha with z | z
    · exact n3 a z a hb rfl
    · exact hw a z (by rw [List.flatten_cons]; exact List.mem_append_right _ hb)
  | x :: xs, j + 1, nd, h, hn, hs, hw => by
    rw [List.getElem?_cons_succ] at h
    rw [List.set_cons_succ, List.flatten_cons]
    rw [List.flatten_cons] at nd
    obtain ⟨n1, n2, n3⟩ := List.nodup_append.mp nd
    refine List.nodup_append.mpr ⟨n1, flatten_set_nodup n2 h hn hs fun b hb z => hw b hb (by rw [List.flatten_cons]; exact List.mem_append_right _ z), fun a ha b hb e => ?_⟩
    subst e
    obtain ⟨fp, q1, q2⟩ := List.mem_flatten.mp hb
    rcases List.mem_or_eq_of_mem_set q1 with z | z
    · exact n3 a ha a (List.mem_flatten.mpr ⟨fp, z, q2⟩) rfl
    · subst z
      rcases hs a q2 with y | y
      · exact n3 a ha a (List.mem_flatten.mpr ⟨old, List.mem_of_getElem? h, y⟩) rfl
      · exact hw a y (by rw [List.flatten_cons]; exact List.mem_append_left _ ha)
section
variable {N : Ent} {W : WX} {L : List Addr} {as1 : List (List Addr)} {st : ST} {σ : L2.St} {H H' : Hp} {i : Nat}
/-- an object of the store changes: nw is new, fp' is what it holds then -/
theorem Rel.mutO (r : Rel N L as1 st σ H) {j : Nat} {a : Addr} {fp fp' nw : List Addr} {go : GO} (f : as1[j]? = some (a :: fp)) (hn : ∀ b ∈ nw, H b = none) (hnd : (a :: fp').Nodup) (hsub : ∀ b ∈ fp', b ∈ fp ∨ b ∈ nw) (out : ∀ b, b ∉ a :: fp → b ∉ nw → H' b = H b)
    (lv : ∀ b, b ∈ a :: fp ∨ b ∈ nw → ∃ o, H' b = some o ∧ ∀ vs, o ≠ .tup vs) (ok : GOk N.cls (mask H' (nw ++ L)) H' (a :: fp') go) :
    Rel N (nw ++ L) (as1.set j (a :: fp')) { st with gs := st.gs.set j go } σ H' ∧ Ext L as1 H (nw ++ L) (as1.set j (a :: fp')) H' := by
  have finL : ∀ b ∈ a :: fp, b ∈ L := r.g.gin _ (List.mem_of_getElem? f)
  have fflat : ∀ b ∈ a :: fp, b ∈ as1.flatten := fun b hb => List.mem_flatten.mpr ⟨_, List.mem_of_getElem? f, hb⟩
  have nwL : ∀ b ∈ nw, b ∉ L := fun b hb z => r.live b z (hn b hb)
  have sm : Same (mask H L) (mask H' (nw ++ L)) := fun b o h => by
    obtain ⟨e, n⟩ := of_mask h
    have n1 : b ∉ a :: fp := fun z => n (finL b z)
    have n2 : b ∉ nw := fun z => by rw [hn b z] at e; cases e
    refine mask_of (by rw [out b n1 n2]; exact e) fun z => ?_
    rcases List.mem_append.mp z with z | z
    · exact n2 z
    · exact n z
  have newF : ∀ b, b ∈ (as1.set j (a :: fp')).flatten → b ∈ as1.flatten ∨ b ∈ nw := fun b hb => by
    obtain ⟨fq, q1, q2⟩ := List.mem_flatten.mp hb
    rcases List.mem_or_eq_of_mem_set q1 with z | z
    · exact .inl (List.mem_flatten.mpr ⟨fq, z, q2⟩)
    · subst z
      rcases List.mem_cons.mp q2 with rfl | y
      · exact .inl (fflat _ List.mem_cons_self)
      · rcases hsub b y with y | y
        · exact .inl (fflat b (List.mem_cons_of_mem _ y))
        · exact .inr y
  have keep : ∀ b o, H b = some o → b ∉ a :: fp → H' b = some o := fun b o h n => by
    rw [out b n fun z => by rw [hn b z] at h; cases h]
    exact h
  have live' : ∀ b ∈ nw ++ L, ∃ o, H' b = some o ∧ ∀ vs, o ≠ .tup vs := fun b hb => by
    by_cases z : b ∈ a :: fp ∨ b ∈ nw
    · exact lv b z
    · have z1 : b ∉ a :: fp := fun y => z (.inl y)
      have z2 : b ∉ nw := fun y => z (.inr y)
      rcases List.mem_append.mp hb with y | y
      · exact absurd y z2
      · cases e : H b with
        | none => exact absurd e (r.live b y)
        | some o => exact ⟨o, keep b o e z1, fun vs w => r.nt b y vs (by rw [e, w])⟩
  refine ⟨?_, sm, Pre.set f⟩
  exact {
    len := r.len
    l0 := r.l0
    sub := fun b hb => List.mem_append_right _ (r.sub b hb)
    new := fun b hb => by
      rcases List.mem_append.mp hb with z | z
      · exact .inr (r.fresh0 (hn b z))
      · exact r.new b z
    live := fun b hb => by
      obtain ⟨o, e, _⟩ := live' b hb
      rw [e]; exact fun z => nomatch z
    frame := fun b u hu n => by
      refine keep b u (r.frame b u hu n) fun z => ?_
      rcases r.gnew b (fflat b z) with y | y
      · exact n y
      · rw [y] at hu; cases hu
    dat := fun k d e => by
      obtain ⟨v, q1, q2⟩ := r.dat k d e
      exact ⟨v, q1, q2.mono sm⟩
    own := fun k ds e => by
      obtain ⟨b, ws, q1, q2, q3, q4, q5, q6⟩ := r.own k ds e
      refine ⟨b, ws, q1, keep b _ q2 fun z => q6 (fflat b z), q3.mono sm, List.mem_append_right _ q4, q5, fun z => ?_⟩
      rcases newF b z with y | y
      · exact q6 y
      · rw [hn b y] at q2; cases q2
    owd := r.owd
    hdl := fun k l e => by
      obtain ⟨b, fq, q1, q2⟩ := r.hdl k l e
      obtain ⟨fq', q3⟩ := (Pre.set (fp' := fp') f).own l b fq q1
      exact ⟨b, fq', q3, q2⟩
    g := {
      glen := by rw [List.length_set, List.length_set]; exact r.g.glen
      gok := fun k go' fq e q => by
        by_cases hk : j = k
        · subst hk
          have l1 := (List.getElem?_eq_some_iff.mp f).1
          rw [List.getElem?_set_self l1] at q
          rw [List.getElem?_set_self (by rw [← r.g.glen]; exact l1)] at e
          cases e
          cases q
          exact ok
        · rw [List.getElem?_set_ne hk] at e q
          refine (r.g.gok k go' fq e q).mono sm fun b hb o ho => keep b o ho fun z => ?_
          exact nodup_flatten_apart r.g.gnd q f (Ne.symm hk) hb z
      gin := fun fq h b hb => by
        rcases List.mem_or_eq_of_mem_set h with z | z
        · exact List.mem_append_right _ (r.g.gin fq z b hb)
        · subst z
          rcases List.mem_cons.mp hb with rfl | y
          · exact List.mem_append_right _ (finL _ List.mem_cons_self)
          · rcases hsub b y with y | y
            · exact List.mem_append_right _ (finL b (List.mem_cons_of_mem _ y))
            · exact List.mem_append_left _ y
      gnd := by
        refine flatten_set_nodup (nw := nw) r.g.gnd f hnd (fun b hb => ?_) fun b hb z => nwL b hb (r.inL z)
        rcases List.mem_cons.mp hb with rfl | y
        · exact .inl List.mem_cons_self
        · rcases hsub b y with y | y
          · exact .inl (List.mem_cons_of_mem _ y)
          · exact .inr y }
    gnew := fun b hb => by
      rcases newF b hb with z | z
      · exact r.gnew b z
      · exact .inr (r.fresh0 (hn b z))
    hd := r.hd.trans (Pre.set f)
    nt := fun b hb vs => by
      obtain ⟨o, e, q⟩ := live' b hb
      rw [e]; exact fun z => q vs (Option.some.inj z)
    ent := r.ent }
/-- an object of the store is made, with all that it holds -/
theorem Rel.pushO (r : Rel N L as1 st σ H) {fp : List Addr} {go : GO} (hn : ∀ b ∈ fp, H b = none) (hnd : fp.Nodup) (out : ∀ b, b ∉ fp → H' b = H b) (lv : ∀ b ∈ fp, ∃ o, H' b = some o ∧ ∀ vs, o ≠ .tup vs) (ok : GOk N.cls (mask H' (fp ++ L)) H' fp go) :
    Rel N (fp ++ L) (as1 ++ [fp]) { st with gs := st.gs ++ [go] } σ H' ∧ Ext L as1 H (fp ++ L) (as1 ++ [fp]) H' := by
  have s1 : Same H H' := fun b o h => by
    rw [out b fun z => by rw [hn b z] at h; cases h]
    exact h
  have sm : Same (mask H L) (mask H' (fp ++ L)) := fun b o h => by
    obtain ⟨e, n⟩ := of_mask h
    refine mask_of (s1 _ _ e) fun z => ?_
    rcases List.mem_append.mp z with z | z
    · rw [hn b z] at e; cases e
    · exact n z
  have fl : (as1 ++ [fp]).flatten = as1.flatten ++ fp := by simp
  have r1 := r.grow s1
  refine ⟨?_, sm, .app⟩
  exact {
    len := r.len
    l0 := r.l0
    sub := fun b hb => List.mem_append_right _ (r.sub b hb)
    new := fun b hb => by
      rcases List.mem_append.mp hb with z | z
      · exact .inr (r.fresh0 (hn b z))
      · exact r.new b z
    live := fun b hb => by
      rcases List.mem_append.mp hb with z | z
      · obtain ⟨o, e, _⟩ := lv b z
        rw [e]; exact fun z => nomatch z
      · exact r1.live b z
    frame := r1.frame
    dat := fun k d e => by
      obtain ⟨v, q1, q2⟩ := r.dat k d e
      exact ⟨v, q1, q2.mono sm⟩
    own := fun k ds e => by
      obtain ⟨b, ws, q1, q2, q3, q4, q5, q6⟩ := r.own k ds e
      refine ⟨b, ws, q1, s1 _ _ q2, q3.mono sm, List.mem_append_right _ q4, q5, fun z => ?_⟩
      rw [fl] at z
      rcases List.mem_append.mp z with y | y
      · exact q6 y
      · rw [hn b y] at q2; cases q2
    owd := r.owd
    hdl := fun k l e => by
      obtain ⟨b, fq, q1, q2⟩ := r.hdl k l e
      exact ⟨b, fq, by rw [List.getElem?_append_left (List.getElem?_eq_some_iff.mp q1).1]; exact q1, q2⟩
    g := {
      glen := by
        have := r.g.glen
        simp only [List.length_append, List.length_cons, List.length_nil] at this ⊢
        omega
      gok := fun k go' fq e q => by
        by_cases hk : k < as1.length
        · rw [List.getElem?_append_left hk] at q
          rw [List.getElem?_append_left (by rw [← r.g.glen]; exact hk)] at e
          exact (r.g.gok k go' fq e q).mono sm fun b hb o ho => s1 _ _ ho
        · have hl := r.g.glen
          have hk2 : k = as1.length := by
            have := (List.getElem?_eq_some_iff.mp q).1
            rw [List.length_append, List.length_singleton] at this
            omega
          subst hk2
          rw [List.getElem?_concat_length] at q
          rw [hl, List.getElem?_concat_length] at e
          cases e
          cases q
          exact ok
      gin := fun fq h b hb => by
        rcases List.mem_append.mp h with z | z
        · exact List.mem_append_right _ (r.g.gin fq z b hb)
        · have : fq = fp := by simpa using z
          subst this
          exact List.mem_append_left _ hb
      gnd := by
        rw [fl]
        refine List.nodup_append.mpr ⟨r.g.gnd, hnd, fun a ha b hb e => ?_⟩
        subst e
        exact r.live a (r.inL ha) (hn a hb) }
    gnew := fun b hb => by
      rw [fl] at hb
      rcases List.mem_append.mp hb with z | z
      · exact r.gnew b z
      · exact .inr (r.fresh0 (hn b z))
    hd := r.hd.trans .app
    nt := fun b hb vs => by
      rcases List.mem_append.mp hb with z | z
      · obtain ⟨o, e, q⟩ := lv b z
        rw [e]; exact fun z => q vs (Option.some.inj z)
      · exact r1.nt b z vs
    ent := r.ent }
end
/-! ### fields -/
def putFV (f : Str) (v : FV) : List (Str × FV) → List (Str × FV)
  | [] => [(f, v)]
  | (g, x) :: r => if g = f then (g, v) :: r else (g, x) :: putFV f v r
theorem look_pos {α : Type} {f g : Str} {x : α} {r : List (Str × α)} (h : g = f) : List.lookup f ((g, x) :: r) = some x := by
  have hb : (f == g) = true := beq_iff_eq.mpr h.symm
  simp only [List.lookup, hb]
theorem look_neg {α : Type} {f g : Str} {x : α} {r : List (Str × α)} (h : ¬ g = f) : List.lookup f ((g, x) :: r) = List.lookup f r := by
  have hb : (f == g) = false := beq_eq_false_iff_ne.mpr fun z => h z.symm
  simp only [List.lookup, hb]
section
variable {F H : Hp}
theorem FAll.len : ∀ {ws : List (Str × V)} {fs : List (Str × FV)} {ps : List Addr}, FAll F H ws fs ps → ws.length = fs.length
  | _, _, _, .nil => rfl
  | _, _, _, .dat _ r => by rw [List.length_cons, List.length_cons, FAll.len r]
  | _, _, _, .own _ _ r => by rw [List.length_cons, List.length_cons, FAll.len r]
theorem FAll.none {f : Str} : ∀ {ws : List (Str × V)} {fs : List (Str × FV)} {ps : List Addr}, FAll F H ws fs ps → fs.lookup f = none → ws.lookup f = none
  | _, _, _, .nil, _ => rfl
  | _, _, _, .dat (f := g) _ r, e => by
    by_cases z : g = f
    · rw [look_pos z] at e; cases e
    · rw [look_neg z] at e ⊢; exact FAll.none r e
  | _, _, _, .own (f := g) _ _ r, e => by
    by_cases z : g = f
    · rw [look_pos z] at e; cases e
    · rw [look_neg z] at e ⊢; exact FAll.none r e
theorem FAll.getD {f : Str} {d : PyData} : ∀ {ws : List (Str × V)} {fs : List (Str × FV)} {ps : List Addr}, FAll F H ws fs ps → fs.lookup f = some (.dat d) → ∃ v, ws.lookup f = some v ∧ At F v d
  | _, _, _, .nil, e => by simp at e
  | _, _, _, .dat (f := g) h r, e => by
    by_cases z : g = f
    · rw [look_pos z] at e ⊢; cases e; exact ⟨_, rfl, h⟩
    · rw [look_neg z] at e ⊢; exact FAll.getD r e
  | _, _, _, .own (f := g) _ _ r, e => by
    by_cases z : g = f
    · rw [look_pos z] at e; cases e
    · rw [look_neg z] at e ⊢; exact FAll.getD r e
theorem FAll.getO {f : Str} {ds : List PyData} : ∀ {ws : List (Str × V)} {fs : List (Str × FV)} {ps : List Addr}, FAll F H ws fs ps → fs.lookup f = some (.own ds) → ∃ p vs, ws.lookup f = some (.ref p) ∧ p ∈ ps ∧ H p = some (.lst vs) ∧ Ats F vs ds
  | _, _, _, .nil, e => by simp at e
  | _, _, _, .dat (f := g) h r, e => by
    by_cases z : g = f
    · rw [look_pos z] at e; cases e
    · rw [look_neg z] at e ⊢; exact FAll.getO r e
  | _, _, _, .own (f := g) h1 h2 r, e => by
    by_cases z : g = f
    · rw [look_pos z] at e ⊢; cases e; exact ⟨_, _, rfl, List.mem_cons_self, h1, h2⟩
    · rw [look_neg z] at e ⊢
      obtain ⟨p, vs, q1, q2, q3, q4⟩ := FAll.getO r e
      exact ⟨p, vs, q1, List.mem_cons_of_mem _ q2, q3, q4⟩
theorem FAll.putD {f : Str} {v : V} {d : PyData} (hv : At F v d) : ∀ {ws : List (Str × V)} {fs : List (Str × FV)} {ps : List Addr}, FAll F H ws fs ps → ∃ ps', FAll F H (putF f v ws) (putFV f (.dat d) fs) ps' ∧ ps'.Sublist ps
  | _, _, _, .nil => ⟨[], .dat hv .nil, .slnil⟩
  | _, _, _, .dat (f := g) (v := x) (d := y) h r => by
    show ∃ ps', FAll F H (if g = f then _ else _) (if g = f then _ else _) ps' ∧ _
    by_cases z : g = f
    · rw [if_pos z, if_pos z]; exact ⟨_, .dat hv r, List.Sublist.refl _⟩
    · rw [if_neg z, if_neg z]
      obtain ⟨ps', q1, q2⟩ := FAll.putD hv r
      exact ⟨ps', .dat h q1, q2⟩
  | _, _, _, .own (f := g) h1 h2 r => by
    show ∃ ps', FAll F H (if g = f then _ else _) (if g = f then _ else _) ps' ∧ _
    by_cases z : g = f
    · rw [if_pos z, if_pos z]; exact ⟨_, .dat hv r, .cons _ (List.Sublist.refl _)⟩
    · rw [if_neg z, if_neg z]
      obtain ⟨ps', q1, q2⟩ := FAll.putD hv r
      exact ⟨_, .own h1 h2 q1, .cons₂ _ q2⟩
theorem FAll.putO {f : Str} {p : Addr} {vs : List V} {ds : List PyData} (hp : H p = some (.lst vs)) (hv : Ats F vs ds) : ∀ {ws : List (Str × V)} {fs : List (Str × FV)} {ps : List Addr}, FAll F H ws fs ps → p ∉ ps → ps.Nodup → ∃ ps', FAll F H (putF f (.ref p) ws) (putFV f (.own ds) fs) ps' ∧ (∀ b ∈ ps', b ∈ ps ∨ b = p) ∧ ps'.Nodup
  | _, _, _, .nil, _, _ => ⟨[p], .own hp hv .nil, fun b hb => .inr (by simpa using hb), by simp⟩
  | _, _, ps, .dat (f := g) (v := x) (d := y) h r, np, nd => by
    show ∃ ps', FAll F H (if g = f then _ else _) (if g = f then _ else _) ps' ∧ _
    by_cases z : g = f
    · rw [if_pos z, if_pos z]
      refine ⟨p :: ps, .own hp hv r, fun b hb => ?_, List.nodup_cons.mpr ⟨np, nd⟩⟩
      rcases List.mem_cons.mp hb with y | y
      · exact .inr y
      · exact .inl y
    · rw [if_neg z, if_neg z]
      obtain ⟨ps', q1, q2, q3⟩ := FAll.putO hp hv r np nd
      exact ⟨ps', .dat h q1, q2, q3⟩
  | _, _, _, .own (f := g) (p := q) (ps := ps) h1 h2 r, np, nd => by
    show ∃ ps', FAll F H (if g = f then _ else _) (if g = f then _ else _) ps' ∧ _
    obtain ⟨n1, n2⟩ := List.nodup_cons.mp nd
    have np' : p ∉ ps := fun z => np (List.mem_cons_of_mem _ z)
    by_cases z : g = f
    · rw [if_pos z, if_pos z]
      refine ⟨p :: ps, .own hp hv r, fun b hb => ?_, List.nodup_cons.mpr ⟨np', n2⟩⟩
      rcases List.mem_cons.mp hb with y | y
      · exact .inr y
      · exact .inl (List.mem_cons_of_mem _ y)
    · rw [if_neg z, if_neg z]
      obtain ⟨ps', q1, q2, q3⟩ := FAll.putO hp hv r np' n2
      refine ⟨q :: ps', .own h1 h2 q1, fun b hb => ?_, List.nodup_cons.mpr ⟨fun y => ?_, q3⟩⟩
      · rcases List.mem_cons.mp hb with y | y
        · exact .inl (by rw [y]; exact List.mem_cons_self)
        · rcases q2 b y with y | y
          · exact .inl (List.mem_cons_of_mem _ y)
          · exact .inr y
      · rcases q2 q y with y | y
        · exact n1 y
        · exact np (by rw [y]; exact List.mem_cons_self)
/-- a list of a field is changed -/
theorem FAll.setO {f : Str} {p : Addr} {vs : List V} {ds ds' : List PyData} (hv : Ats F vs ds') : ∀ {ws : List (Str × V)} {fs : List (Str × FV)} {ps : List Addr}, FAll F H ws fs ps → ps.Nodup → fs.lookup f = some (.own ds) → ws.lookup f = some (.ref p) → p ∈ ps ∧ FAll F (upd H p (.lst vs)) ws (putFV f (.own ds') fs) ps
  | _, _, _, .nil, _, e, _ => by simp at e
  | _, _, _, .dat (f := g) (v := x) (d := y) h r, nd, e, e2 => by
    show _ ∧ FAll F _ _ (if g = f then _ else _) _
    by_cases z : g = f
    · rw [look_pos z] at e; cases e
    · rw [look_neg z] at e e2
      rw [if_neg z]
      obtain ⟨q1, q2⟩ := FAll.setO hv r nd e e2
      exact ⟨q1, .dat h q2⟩
  | _, _, _, .own (f := g) (p := q) (ps := ps) h1 h2 r, nd, e, e2 => by
    show _ ∧ FAll F _ _ (if g = f then _ else _) _
    obtain ⟨n1, n2⟩ := List.nodup_cons.mp nd
    by_cases z : g = f
    · rw [look_pos z] at e e2
      cases e2
      rw [if_pos z]
      refine ⟨List.mem_cons_self, .own upd_same hv (r.mono (Same.refl _) fun b hb o ho => ?_)⟩
      rw [upd_ne (fun y => n1 (by rw [← y]; exact hb))]
      exact ho
    · rw [look_neg z] at e e2
      rw [if_neg z]
      obtain ⟨q1, q2⟩ := FAll.setO hv r n2 e e2
      refine ⟨List.mem_cons_of_mem _ q1, .own ?_ h2 q2⟩
      rw [upd_ne (fun y => n1 (by rw [y]; exact q1))]
      exact h1
end
end JL
/-! J48: fields of an instance: o.f, o.f = e, o.f = [], o.f.append((x, o.g)), o.f.pop(), o.f == []. -/
namespace JL
open PySem PySem.Spec PyProof.Rows L2
section
variable {N : Ent} {W : WX} {L : List Addr} {as1 : List (List Addr)} {st : ST} {σ : L2.St} {H H' : Hp} {i j : Nat}
theorem FAll.lv {F : Hp} : ∀ {ws : List (Str × V)} {fs : List (Str × FV)} {ps : List Addr}, FAll F H ws fs ps → ∀ b ∈ ps, ∃ vs, H b = some (.lst vs)
  | _, _, _, .nil, b, hb => absurd hb (by simp)
  | _, _, _, .dat _ r, b, hb => FAll.lv r b hb
  | _, _, _, .own h _ r, b, hb => by
    rcases List.mem_cons.mp hb with rfl | hb
    · exact ⟨_, h⟩
    · exact FAll.lv r b hb
theorem nodup_at {α : Type} : ∀ {as : List (List α)} {j : Nat} {fp : List α}, as.flatten.Nodup → as[j]? = some fp → fp.Nodup
  | [], _, _, _, h => by simp at h
  | x :: xs, 0, _, nd, h => by
    rw [List.getElem?_cons_zero] at h
    cases h
    rw [List.flatten_cons] at nd
    exact (List.nodup_append.mp nd).1
  | x :: xs, j + 1, _, nd, h => by
    rw [List.getElem?_cons_succ] at h
    rw [List.flatten_cons] at nd
    exact nodup_at (List.nodup_append.mp nd).2.1 h
/-- the instance at a handle -/
structure InsAt (N : Ent) (L : List Addr) (as1 : List (List Addr)) (H : Hp) (j : Nat) (fs : List (Str × FV)) (a dx C : Addr) (ws : List (Str × V)) (ps : List Addr) : Prop where
  f : as1[j]? = some (a :: dx :: ps)
  c : N.cls 101 = .ref C
  h : H a = some (.ins C dx ws)
  d : H dx = some (.own a)
  al : FAll (mask H L) H ws fs ps
  nd : (a :: dx :: ps).Nodup
  inL : ∀ b ∈ a :: dx :: ps, b ∈ L
theorem Rel.ins (r : Rel N L as1 st σ H) {fs : List (Str × FV)} (e : st.sl[i]? = some (.hdl j)) (hg : st.gs[j]? = some (.ins fs)) : ∃ a dx C ws ps, σ[i]? = some (some (.ref a)) ∧ InsAt N L as1 H j fs a dx C ws ps := by
  obtain ⟨a, fp, ea, ev⟩ := r.hdl i j e
  obtain ⟨a', dx, C, ws, ps, efp, hc, h1, h2, h3⟩ := r.g.gok j _ _ hg ea
  cases efp
  exact ⟨a, dx, C, ws, ps, ev, ea, hc, h1, h2, h3, nodup_at r.g.gnd ea, r.g.gin _ (List.mem_of_getElem? ea)⟩
theorem InsAt.grow {fs : List (Str × FV)} {a dx C : Addr} {ws : List (Str × V)} {ps : List Addr} (x : InsAt N L as1 H j fs a dx C ws ps) (s : Same H H') : InsAt N L as1 H' j fs a dx C ws ps :=
  ⟨x.f, x.c, s _ _ x.h, s _ _ x.d, x.al.mono (mask_grow s) fun b _ o ho => s _ _ ho, x.nd, x.inL⟩
/-- a field becomes a datum -/
theorem Rel.fldD (r : Rel N L as1 st σ H) {fs : List (Str × FV)} {a dx C : Addr} {ws : List (Str × V)} {ps : List Addr} (x : InsAt N L as1 H j fs a dx C ws ps) {f : Str} {v : V} {d : PyData} (hv : At (mask H L) v d) :
    ∃ as', Rel N L as' { st with gs := st.gs.set j (.ins (putFV f (.dat d) fs)) } σ (upd H a (.ins C dx (putF f v ws))) ∧ Ext L as1 H L as' (upd H a (.ins C dx (putF f v ws))) := by
  obtain ⟨ps', q1, q2⟩ := x.al.putD (f := f) hv
  obtain ⟨n1, n2⟩ := List.nodup_cons.mp x.nd
  obtain ⟨n3, n4⟩ := List.nodup_cons.mp n2
  have nda : dx ≠ a := fun z => n1 (by rw [z]; exact List.mem_cons_self)
  have npa : ∀ b ∈ ps, b ≠ a := fun b hb z => n1 (by rw [← z]; exact List.mem_cons_of_mem _ hb)
  have ha : a ∈ L := x.inL a List.mem_cons_self
  have hsub := q2.subset
  have M := r.mutO (H' := upd H a (.ins C dx (putF f v ws))) (nw := []) (fp := dx :: ps) (fp' := dx :: ps') (go := .ins (putFV f (.dat d) fs)) x.f (fun b hb => absurd hb (by simp)) ?_ ?_ ?_ ?_ ?_
  · exact ⟨_, M⟩
  · exact List.nodup_cons.mpr ⟨fun z => by
      rcases List.mem_cons.mp z with z | z
      · exact nda z.symm
      · exact npa a (hsub z) rfl, List.nodup_cons.mpr ⟨fun z => n3 (hsub z), n4.sublist q2⟩⟩
  · intro b hb
    rcases List.mem_cons.mp hb with z | z
    · exact .inl (by rw [z]; exact List.mem_cons_self)
    · exact .inl (List.mem_cons_of_mem _ (hsub z))
  · intro b h1 _
    exact upd_ne fun z => h1 (by rw [z]; exact List.mem_cons_self)
  · intro b hb
    rcases hb with hb | hb
    · rcases List.mem_cons.mp hb with rfl | hb
      · exact ⟨_, upd_same, fun _ z => nomatch z⟩
      · rcases List.mem_cons.mp hb with rfl | hb
        · exact ⟨.own a, by rw [upd_ne nda]; exact x.d, fun _ z => nomatch z⟩
        · obtain ⟨vs, h⟩ := x.al.lv b hb
          exact ⟨.lst vs, by rw [upd_ne (npa b hb)]; exact h, fun _ z => nomatch z⟩
    · exact absurd hb (by simp)
  · exact ⟨a, dx, C, _, ps', rfl, x.c, upd_same, by rw [upd_ne nda]; exact x.d, q1.mono (mask_upd ha) fun b hb o ho => by rw [upd_ne (npa b (hsub hb))]; exact ho⟩
/-- a field becomes a new list of its own -/
theorem Rel.fldO (r : Rel N L as1 st σ H) {fs : List (Str × FV)} {a dx C : Addr} {ws : List (Str × V)} {ps : List Addr} (x : InsAt N L as1 H j fs a dx C ws ps) {f : Str} {p : Addr} (np : H p = none) :
    ∃ as' L', Rel N L' as' { st with gs := st.gs.set j (.ins (putFV f (.own []) fs)) } σ (upd (upd H p (.lst [])) a (.ins C dx (putF f (.ref p) ws))) ∧ Ext L as1 H L' as' (upd (upd H p (.lst [])) a (.ins C dx (putF f (.ref p) ws))) := by
  obtain ⟨n1, n2⟩ := List.nodup_cons.mp x.nd
  obtain ⟨n3, n4⟩ := List.nodup_cons.mp n2
  have nda : dx ≠ a := fun z => n1 (by rw [z]; exact List.mem_cons_self)
  have npa : ∀ b ∈ ps, b ≠ a := fun b hb z => n1 (by rw [← z]; exact List.mem_cons_of_mem _ hb)
  have ha : a ∈ L := x.inL a List.mem_cons_self
  have pa : p ≠ a := fun z => by rw [z, x.h] at np; cases np
  have pd : p ≠ dx := fun z => by rw [z, x.d] at np; cases np
  have pp : p ∉ ps := fun z => by
    obtain ⟨vs, h⟩ := x.al.lv p z
    rw [h] at np; cases np
  have al1 : FAll (mask H L) (upd H p (.lst [])) ws fs ps := x.al.mono (Same.refl _) fun b hb o ho => by rw [upd_ne (fun z => pp (by rw [← z]; exact hb))]; exact ho
  obtain ⟨ps', q1, q2, q3⟩ := al1.putO (f := f) (p := p) (vs := []) (ds := []) upd_same .nil pp n4
  have sm : Same (mask H L) (mask (upd (upd H p (.lst [])) a (.ins C dx (putF f (.ref p) ws))) ([p] ++ L)) := fun b o h => by
    obtain ⟨e, n⟩ := of_mask h
    have nb : b ≠ p := ne_of_none e np
    refine mask_of (by rw [upd_ne (fun z => n (by rw [z]; exact ha)), upd_ne nb]; exact e) fun z => ?_
    rcases List.mem_append.mp z with z | z
    · exact nb (by simpa using z)
    · exact n z
  have M := r.mutO (H' := upd (upd H p (.lst [])) a (.ins C dx (putF f (.ref p) ws))) (nw := [p]) (fp := dx :: ps) (fp' := dx :: ps') (go := .ins (putFV f (.own []) fs)) x.f (fun b hb => by rw [List.mem_singleton.mp hb]; exact np) ?_ ?_ ?_ ?_ ?_
  · exact ⟨_, _, M⟩
  · refine List.nodup_cons.mpr ⟨fun z => ?_, List.nodup_cons.mpr ⟨fun z => ?_, q3⟩⟩
    · rcases List.mem_cons.mp z with z | z
      · exact nda z.symm
      · rcases q2 a z with z | z
        · exact npa a z rfl
        · exact pa z.symm
    · rcases q2 dx z with z | z
      · exact n3 z
      · exact pd z.symm
  · intro b hb
    rcases List.mem_cons.mp hb with z | z
    · exact .inl (by rw [z]; exact List.mem_cons_self)
    · rcases q2 b z with z | z
      · exact .inl (List.mem_cons_of_mem _ z)
      · exact .inr (by simp [z])
  · intro b h1 h2
    rw [upd_ne (fun z => h1 (by rw [z]; exact List.mem_cons_self)), upd_ne (fun z => h2 (by simp [z]))]
  · intro b hb
    by_cases za : b = a
    · subst za; exact ⟨_, upd_same, fun _ z => nomatch z⟩
    · rw [upd_ne za]
      by_cases zp : b = p
      · subst zp; exact ⟨_, upd_same, fun _ z => nomatch z⟩
      · rw [upd_ne zp]
        rcases hb with hb | hb
        · rcases List.mem_cons.mp hb with z | hb
          · exact absurd z za
          · rcases List.mem_cons.mp hb with rfl | hb
            · exact ⟨_, x.d, fun _ z => nomatch z⟩
            · obtain ⟨vs, h⟩ := x.al.lv b hb
              exact ⟨_, h, fun _ z => nomatch z⟩
        · exact absurd (by simpa using hb) zp
  · refine ⟨a, dx, C, _, ps', rfl, x.c, upd_same, by rw [upd_ne nda, upd_ne (Ne.symm pd)]; exact x.d, q1.mono sm fun b hb o ho => ?_⟩
    rcases q2 b hb with z | z
    · rw [upd_ne (npa b z)]; exact ho
    · rw [z, upd_ne pa]; rw [z] at ho; exact ho
/-- the list of a field is changed -/
theorem Rel.fldM (r : Rel N L as1 st σ H) {fs : List (Str × FV)} {a dx C : Addr} {ws : List (Str × V)} {ps : List Addr} (x : InsAt N L as1 H j fs a dx C ws ps) {f : Str} {p : Addr} {vs' : List V} {ds ds' : List PyData} (e1 : fs.lookup f = some (.own ds)) (e2 : ws.lookup f = some (.ref p)) (hv : Ats (mask H L) vs' ds') :
    ∃ as', Rel N L as' { st with gs := st.gs.set j (.ins (putFV f (.own ds') fs)) } σ (upd H p (.lst vs')) ∧ Ext L as1 H L as' (upd H p (.lst vs')) := by
  obtain ⟨n1, n2⟩ := List.nodup_cons.mp x.nd
  obtain ⟨n3, n4⟩ := List.nodup_cons.mp n2
  obtain ⟨pp, q1⟩ := x.al.setO (ds' := ds') hv n4 e1 e2
  have pa : a ≠ p := fun z => n1 (by rw [z]; exact List.mem_cons_of_mem _ pp)
  have pd : dx ≠ p := fun z => n3 (by rw [z]; exact pp)
  have pL : p ∈ L := x.inL p (List.mem_cons_of_mem _ (List.mem_cons_of_mem _ pp))
  have M := r.mutO (H' := upd H p (.lst vs')) (nw := []) (fp := dx :: ps) (fp' := dx :: ps) (go := .ins (putFV f (.own ds') fs)) x.f (fun b hb => absurd hb (by simp)) x.nd (fun b hb => .inl hb) (fun b h1 _ => upd_ne fun z => h1 (by rw [z]; exact List.mem_cons_of_mem _ (List.mem_cons_of_mem _ pp))) (fun b hb => ?_) ?_
  · exact ⟨_, M⟩
  · by_cases zp : b = p
    · subst zp; exact ⟨_, upd_same, fun _ z => nomatch z⟩
    · rw [upd_ne zp]
      rcases hb with hb | hb
      · rcases List.mem_cons.mp hb with rfl | hb
        · exact ⟨_, x.h, fun _ z => nomatch z⟩
        · rcases List.mem_cons.mp hb with rfl | hb
          · exact ⟨_, x.d, fun _ z => nomatch z⟩
          · obtain ⟨vs, h⟩ := x.al.lv b hb
            exact ⟨_, h, fun _ z => nomatch z⟩
      · exact absurd hb (by simp)
  · exact ⟨a, dx, C, _, ps, rfl, x.c, by rw [upd_ne pa]; exact x.h, by rw [upd_ne pd]; exact x.d, q1.mono (mask_upd pL) fun b _ o ho => ho⟩
end
/-! ### the words -/
section
variable {X : Cx} {N : Ent} {W : WX} {e a b : Expr} {es : List Expr} {ma mb : M RV} {mr : M (List RV)} {pos : Pos} {i : Nat} {x : Str} {px : Pos}
/-- the instance in slot i -/
@[simp] def insOf (i : Nat) (st : ST) : Option (Nat × List (Str × FV)) := match st.sl[i]? with
  | some (.hdl j) => (match st.gs[j]? with
    | some (.ins fs) => some (j, fs)
    | _ => none)
  | _ => none
theorem insOf_iff {st : ST} {j : Nat} {fs : List (Str × FV)} (h : insOf i st = some (j, fs)) : st.sl[i]? = some (.hdl j) ∧ st.gs[j]? = some (.ins fs) := by
  unfold insOf at h
  split at h
  · rename_i j' e
    split at h
    · rename_i fs' e2
      cases h
      exact ⟨e, e2⟩
    · cases h
  · cases h
@[simp] def mFld (i : Nat) (f : Str) (st : ST) : R RV := match insOf i st with
  | some (_, fs) => (match fs.lookup f with
    | some (.dat d) => .ok (.dat d) st
    | _ => .stuck)
  | none => .stuck
/-- facts of the class -/
structure InsC (K : PySem.W.Frag) (cls : Cl) (C : Addr) : Prop where
  c : Cls K C
  L : cls 101 = .ref C
theorem InsC.eq {K : PySem.W.Frag} {cls : Cl} {C D : Addr} (I : InsC K cls C) (h : cls 101 = .ref D) : D = C := by
  have := h.symm.trans I.L
  cases this
  rfl
variable {cls : Cl} {C : Addr}
theorem je_fld {f : Str} (I : InsC X.K cls C) (hcl : N.cls = cls) (hn : NoAttr X.K C f) (hN : X.N[i]? = some x := by rfl) (hv : Vis X.env.scope x := by first | exact Or.inl rfl | exact Or.inr (Or.inl rfl) | exact Or.inr (Or.inr rfl)) (hd : (x == ("__debug__" : Str)) = false := by decide) (hcd : (x == ("__classdict__" : Str)) = false := by decide)
    (hb : attributeBase (.Name x px) f X.env (eval (.Name x px) X.env) = eval (.Name x px) X.env := by rfl) : JE X N W (.Attribute (.Name x px) f pos) (mFld i f) := by
  subst hcl
  refine PE.weak (pe_fld (pe_var hN hv hd hcd) hb) fun σ H Q ⟨L, as1, st, rel, h⟩ => ?_
  unfold mFld at h
  split at h
  · rename_i jj fs e
    obtain ⟨e1, e2⟩ := insOf_iff e
    obtain ⟨p, dx, C', ws, ps, hs, ia⟩ := rel.ins e1 e2
    split at h
    · rename_i d el
      obtain ⟨v, l1, l2⟩ := ia.al.getD el
      have := I.eq ia.c
      subst this
      exact ⟨_, hs, p, C', dx, ws, v, rfl, ia.h, I.c, hn, l1, h L as1 v H rel l2 .refl⟩
    · exact h.elim
  · exact h.elim
/-- o.f = e -/
@[simp] def mSetF (i : Nat) (f : Str) (me : M RV) (st0 : ST) : R Flw := (me.bind fun r => fun st => match st.esc r with
  | some (.dat d, st') => (match insOf i st' with
    | some (j, fs) => if fs.length < 900 then .ok .nx { st' with gs := st'.gs.set j (.ins (putFV f (.dat d) fs)) } else .stuck
    | none => .stuck)
  | _ => .stuck) st0
theorem js_fld {f : Str} {pos' : Pos} (I : InsC X.K cls C) (hcl : N.cls = cls) (hn : NoAttr X.K C f) (he : JE X N W e ma) (hN : X.N[i]? = some x := by rfl) (hv : Vis X.env.scope x := by first | exact Or.inl rfl | exact Or.inr (Or.inl rfl) | exact Or.inr (Or.inr rfl)) (hd : (x == ("__debug__" : Str)) = false := by decide) (hcd : (x == ("__classdict__" : Str)) = false := by decide)
    (hs : swapsWith e (some (.Attribute (.Name x px) f pos')) pos.line X.env = pure false := by rfl) : JS X N W (.Assign [.Attribute (.Name x px) f pos'] e pos) (mSetF i f ma) := by
  subst hcl
  refine PS.weak (ps_fld (pe_var hN hv hd hcd) he hs) fun D σ H ⟨L, as1, st, rel, h⟩ => ?_
  refine sem_mono (finS_bindX (P1 := VRel) rel h) fun y H1 ⟨L1, as2, s1, rv1, r1, v1, x1, f1⟩ => ?_
  cases e1 : s1.esc rv1 with
  | none => rw [e1] at f1; exact f1.elim
  | some pq =>
    obtain ⟨q, s4⟩ := pq
    rw [e1] at f1
    obtain ⟨L4, r4, x4, v4, n4⟩ := r1.esc v1 e1
    cases q with
    | bor j => exact absurd rfl (n4 j)
    | hdl j => exact f1.elim
    | dat d =>
      dsimp only at f1
      split at f1
      · rename_i jj fs ei
        split at f1
        · rename_i hl
          obtain ⟨g1, g2⟩ := insOf_iff ei
          obtain ⟨p, dx, C', ws, ps, hs, ia⟩ := r4.ins g1 g2
          have := I.eq ia.c
          subst this
          have v4' : At (mask H1 L4) y d := v4
          obtain ⟨as', r5, x5⟩ := r4.fldD ia (f := f) v4'
          exact ⟨_, hs, p, C', dx, ws, rfl, ia.h, I.c, hn, by rw [ia.al.len]; omega, f1 L4 as' σ _ r5 (x4.trans x5)⟩
        · exact f1.elim
      · exact f1.elim
/-- o.f = [] -/
@[simp] def mSetFN (i : Nat) (f : Str) (st : ST) : R Flw := match insOf i st with
  | some (j, fs) => if fs.length < 900 then .ok .nx { st with gs := st.gs.set j (.ins (putFV f (.own []) fs)) } else .stuck
  | none => .stuck
theorem js_fldN {f : Str} {pos' pl : Pos} (I : InsC X.K cls C) (hcl : N.cls = cls) (hn : NoAttr X.K C f) (hN : X.N[i]? = some x := by rfl) (hv : Vis X.env.scope x := by first | exact Or.inl rfl | exact Or.inr (Or.inl rfl) | exact Or.inr (Or.inr rfl)) (hd : (x == ("__debug__" : Str)) = false := by decide) (hcd : (x == ("__classdict__" : Str)) = false := by decide)
    (hs : swapsWith (.List [] pl) (some (.Attribute (.Name x px) f pos')) pos.line X.env = pure false := by rfl) : JS X N W (.Assign [.Attribute (.Name x px) f pos'] (.List [] pl) pos) (mSetFN i f) := by
  subst hcl
  refine PS.weak (ps_fld (pe_var hN hv hd hcd) (pe_lst pa_nil) hs) fun D σ H ⟨L, as1, st, rel, h⟩ => ?_
  unfold mSetFN at h
  split at h
  · rename_i jj fs ei
    split at h
    · rename_i hl
      obtain ⟨g1, g2⟩ := insOf_iff ei
      obtain ⟨p, dx, C', ws, ps, hs, ia⟩ := rel.ins g1 g2
      have := I.eq ia.c
      subst this
      refine ⟨Nat.zero_le _, fun l nl => ?_⟩
      obtain ⟨as', L', r5, x5⟩ := rel.fldO ia (f := f) nl
      refine ⟨_, hs, p, C', dx, ws, rfl, ?_, I.c, hn, by rw [ia.al.len]; omega, h L' as' σ _ r5 x5⟩
      rw [upd_ne (fun z => by rw [← z, ia.h] at nl; cases nl)]
      exact ia.h
    · exact h.elim
  · exact h.elim
/-- o.f.append((y, o.g)) -/
@[simp] def mFApp (i : Nat) (f : Str) (k : Nat) (g : Str) (st : ST) : R RV := match insOf i st, st.sl[k]? with
  | some (j, fs), some (.dat d1) => (match fs.lookup f, fs.lookup g with
    | some (.own ds), some (.dat d2) => if ds.length < maxLen then .ok (.dat .none) { st with gs := st.gs.set j (.ins (putFV f (.own (ds ++ [.tuple [d1, d2]])) fs)) } else .stuck
    | _, _ => .stuck)
  | _, _ => .stuck
theorem je_fapp {f g : Str} {y : Str} {k kk : Nat} {fpos apos cpos py tpos gpos px2 : Pos} (I : InsC X.K cls C) (hcl : N.cls = cls) (hn : NoAttr X.K C f) (hn2 : NoAttr X.K C g) (hN : X.N[i]? = some x := by rfl) (hv : Vis X.env.scope x := by first | exact Or.inl rfl | exact Or.inr (Or.inl rfl) | exact Or.inr (Or.inr rfl)) (hd : (x == ("__debug__" : Str)) = false := by decide) (hcd : (x == ("__classdict__" : Str)) = false := by decide)
    (hN2 : X.N[k]? = some y := by rfl) (hv2 : Vis X.env.scope y := by first | exact Or.inl rfl | exact Or.inr (Or.inl rfl) | exact Or.inr (Or.inr rfl)) (hd2 : (y == ("__debug__" : Str)) = false := by decide) (hcd2 : (y == ("__classdict__" : Str)) = false := by decide)
    (hb1 : attributeBase (.Name x px) f X.env (eval (.Name x px) X.env) = eval (.Name x px) X.env := by rfl) (hb2 : attributeBase (.Name x px2) g X.env (eval (.Name x px2) X.env) = eval (.Name x px2) X.env := by rfl)
    (hbase : attributeBase (.Attribute (.Name x px) f fpos) "append" X.env (eval (.Attribute (.Name x px) f fpos) X.env) = eval (.Attribute (.Name x px) f fpos) X.env := by rfl)
    (hfew : ((backTo cpos (starEach [.Tuple [.Name y py, .Attribute (.Name x px2) g gpos] kk tpos] X.env)).all (fun x => !x.1) && (backToKw cpos (keywordEach [] X.env)).all (fun x => x.1.isSome) && decide ([Expr.Tuple [.Name y py, .Attribute (.Name x px2) g gpos] kk tpos].length + ([] : List Keyword).length + (if ([] : List Keyword).isEmpty then 0 else 1) < 30)) = true := by rfl)
    (hline : (apos.endLine == cpos.line) = true := by rfl) (hs : starEach [.Tuple [.Name y py, .Attribute (.Name x px2) g gpos] kk tpos] X.env = (false, eval (.Tuple [.Name y py, .Attribute (.Name x px2) g gpos] kk tpos) X.env) :: starEach [] X.env := by rfl) (hpl : (backTo cpos (starEach [] X.env)).any (·.1) = false := by rfl)
    (hs1 : starEach [.Name y py, .Attribute (.Name x px2) g gpos] X.env = (false, eval (.Name y py) X.env) :: starEach [.Attribute (.Name x px2) g gpos] X.env := by rfl) (hs2 : starEach [.Attribute (.Name x px2) g gpos] X.env = (false, eval (.Attribute (.Name x px2) g gpos) X.env) :: starEach [] X.env := by rfl) :
    JE X N W (.Call (.Attribute (.Attribute (.Name x px) f fpos) "append" apos) [.Tuple [.Name y py, .Attribute (.Name x px2) g gpos] kk tpos] [] cpos) (mFApp i f k g) := by
  subst hcl
  refine PE.weak (pe_bm PySem.F.plainAttrs_list PySem.F.slot_list_append PySem.F.type_list_append mt_append (pe_fld (pe_var hN hv hd hcd) hb1) (pa_cons (pe_tup (pa_cons (pe_var hN2 hv2 hd2 hcd2) (pa_cons (pe_fld (pe_var hN hv hd hcd) hb2) pa_nil hs2) hs1)) pa_nil hs) hbase hfew hline hs hpl) fun σ H Q ⟨L, as1, st, rel, h⟩ => ?_
  unfold mFApp at h
  split at h
  · rename_i jj fs d1 ei ek
    obtain ⟨g1, g2⟩ := insOf_iff ei
    obtain ⟨p, dx, C', ws, ps, hsl, ia⟩ := rel.ins g1 g2
    have := I.eq ia.c
    subst this
    split at h
    · rename_i ds d2 l1 l2
      split at h
      · rename_i hl
        obtain ⟨q, vs, w1, w2, w3, w4⟩ := ia.al.getO l1
        obtain ⟨v2, w5, w6⟩ := ia.al.getD l2
        obtain ⟨v1, w7, w8⟩ := rel.dat k d1 ek
        refine ⟨_, hsl, p, C', dx, ws, .ref q, rfl, ia.h, I.c, hn, w1, .inl ⟨rfl, _, SqL.of w3⟩, v1, w7, _, hsl, p, C', dx, ws, v2, rfl, ia.h, I.c, hn2, w5, by show 2 ≤ sizeLine; decide, fun t nt => ?_⟩
        have s1 : Same H (upd H t (.tup [v1, v2])) := same_new nt
        have r1 := rel.grow s1
        have i1 := ia.grow s1
        have tL : t ∉ L := fun z => rel.live t z nt
        have hat : At (mask (upd H t (.tup [v1, v2])) L) (.ref t) (.tuple [d1, d2]) := .tup (mask_of upd_same tL) (.cons (w8.mono (mask_grow s1)) (.cons (w6.mono (mask_grow s1)) .nil))
        obtain ⟨as', r2, x2⟩ := r1.fldM i1 (vs' := vs ++ [.ref t]) (ds' := ds ++ [.tuple [d1, d2]]) l1 w1 ((w4.mono (mask_grow s1)).append (Ats.one hat))
        refine ⟨q, vs, .ref t, rfl, rfl, s1 _ _ w3, ?_, ?_⟩
        · have := w4.length
          have hm : maxLen ≤ sizeLine := by decide
          omega
        · exact h L as' _ _ r2 .non ((Ext.grow s1).trans x2)
      · exact h.elim
    · exact h.elim
  · exact h.elim
/-- o.f.pop() -/
@[simp] def mFPop (i : Nat) (f : Str) (st : ST) : R RV := match insOf i st with
  | some (j, fs) => (match fs.lookup f with
    | some (.own ds) => (match ds[ds.length - 1]? with
      | some d => .ok (.dat d) { st with gs := st.gs.set j (.ins (putFV f (.own ds.dropLast) fs)) }
      | none => .stuck)
    | _ => .stuck)
  | _ => .stuck
theorem je_fpop {f : Str} {fpos apos cpos : Pos} (I : InsC X.K cls C) (hcl : N.cls = cls) (hn : NoAttr X.K C f) (hN : X.N[i]? = some x := by rfl) (hv : Vis X.env.scope x := by first | exact Or.inl rfl | exact Or.inr (Or.inl rfl) | exact Or.inr (Or.inr rfl)) (hd : (x == ("__debug__" : Str)) = false := by decide) (hcd : (x == ("__classdict__" : Str)) = false := by decide)
    (hb1 : attributeBase (.Name x px) f X.env (eval (.Name x px) X.env) = eval (.Name x px) X.env := by rfl)
    (hbase : attributeBase (.Attribute (.Name x px) f fpos) "pop" X.env (eval (.Attribute (.Name x px) f fpos) X.env) = eval (.Attribute (.Name x px) f fpos) X.env := by rfl) (hline : (apos.endLine == cpos.line) = true := by rfl) :
    JE X N W (.Call (.Attribute (.Attribute (.Name x px) f fpos) "pop" apos) [] [] cpos) (mFPop i f) := by
  subst hcl
  refine PE.weak (pe_bm0 PySem.F.plainAttrs_list PySem.F.slot_list_pop PySem.F.type_list_pop mt_pop (pe_fld (pe_var hN hv hd hcd) hb1) hbase hline) fun σ H Q ⟨L, as1, st, rel, h⟩ => ?_
  unfold mFPop at h
  split at h
  · rename_i jj fs ei
    obtain ⟨g1, g2⟩ := insOf_iff ei
    obtain ⟨p, dx, C', ws, ps, hsl, ia⟩ := rel.ins g1 g2
    have := I.eq ia.c
    subst this
    split at h
    · rename_i ds l1
      obtain ⟨q, vs, w1, w2, w3, w4⟩ := ia.al.getO l1
      cases q2 : ds[ds.length - 1]? with
      | none => rw [q2] at h; exact h.elim
      | some d =>
        rw [q2] at h
        obtain ⟨v, z1, z2⟩ := w4.get q2
        obtain ⟨as', r2, x2⟩ := rel.fldM ia (vs' := vs.dropLast) (ds' := ds.dropLast) l1 w1 w4.dropLast
        refine ⟨_, hsl, p, C', dx, ws, .ref q, rfl, ia.h, I.c, hn, w1, .inl ⟨rfl, _, SqL.of w3⟩, q, vs, v, rfl, rfl, w3, by rw [w4.length]; exact z1, ?_⟩
        exact h L as' v _ r2 (z2.mono x2.dat) x2
    · exact h.elim
  · exact h.elim
/-- o.f == [] -/
@[simp] def mFNil (i : Nat) (f : Str) (st : ST) : R Bool := match insOf i st with
  | some (_, fs) => (match fs.lookup f with
    | some (.own ds) => if SeqAt.shaped (.list ds) = true then .ok (PyData.eqv (.list ds) (.list [])) st else .stuck
    | _ => .stuck)
  | _ => .stuck
theorem jt_fnil {f : Str} {fpos pl : Pos} (I : InsC X.K cls C) (hcl : N.cls = cls) (hn : NoAttr X.K C f) (hu : X.A.units + 64 < cLine) (hN : X.N[i]? = some x := by rfl) (hv : Vis X.env.scope x := by first | exact Or.inl rfl | exact Or.inr (Or.inl rfl) | exact Or.inr (Or.inr rfl)) (hd : (x == ("__debug__" : Str)) = false := by decide) (hcd : (x == ("__classdict__" : Str)) = false := by decide)
    (hb1 : attributeBase (.Name x px) f X.env (eval (.Name x px) X.env) = eval (.Name x px) X.env := by rfl) (hm : behindInMarks .Eq (.List [] pl) = false := by first | exact nobehind _ (by decide) (by decide) | rfl) :
    JT X N W (.Compare (.Attribute (.Name x px) f fpos) [.Eq] [.List [] pl] pos) (mFNil i f) := by
  subst hcl
  refine PT.weak (pt_cmpR (op_eqD hu) (pe_fld (pe_var hN hv hd hcd) hb1) (pe_lst pa_nil) hm) fun σ H Q ⟨L, as1, st, rel, h⟩ => ?_
  unfold mFNil at h
  split at h
  · rename_i jj fs ei
    obtain ⟨g1, g2⟩ := insOf_iff ei
    obtain ⟨p, dx, C', ws, ps, hsl, ia⟩ := rel.ins g1 g2
    have := I.eq ia.c
    subst this
    split at h
    · rename_i ds l1
      split at h
      · rename_i hsh
        obtain ⟨q, vs, w1, w2, w3, w4⟩ := ia.al.getO l1
        refine ⟨_, hsl, p, C', dx, ws, .ref q, rfl, ia.h, I.c, hn, w1, Nat.zero_le _, fun z nz => ?_⟩
        have s1 : Same H (upd H z (.lst [])) := same_new nz
        refine ⟨.list ds, .list [], .lst (.inl (.inl (s1 _ _ w3))) (w4.mono (mask_same.trans s1)).dp, .lst (.inl (.inl upd_same)) .nil, hsh, by decide +kernel, _, rfl, ?_⟩
        exact h L as1 _ _ (rel.grow s1) rfl (Ext.grow s1)
      · exact h.elim
    · exact h.elim
  · exact h.elim
end
end JL
/-! J49: o.m(..), C(..), len(o) by an own __len__. -/
namespace JL
open PySem PySem.Spec PyProof.Rows L2
section
variable {X : Cx} {CXx : CXT} {k : Nat} {f C : Addr} {fd : FuncData} {ps : List Str} {sp : Sp} {E : L2.St → XK} {x m : Str} {p pos apos : Pos} {e o : Expr} {es : List Expr} {ta : TE} {t : TA}
def tMethS (C : Addr) (m : Str) (sp : Sp) (E : L2.St → XK) (ta : TE) (t : TA) : TE := fun σ H Q => ta σ H fun x H1 => ∃ a dx fs, x = .ref a ∧ H1 a = some (.ins C dx fs) ∧ fs.lookup m = none ∧ t σ H1 fun vs H2 => sp (x :: vs) H2 Q (E σ)
theorem pe_methX {pl : Sem Bool} (he : PE X o ta) (c : Cls X.K C) (hm : Meth X.K C m f) (F : FnOk X.prog X.w X.K X.mg X.base CXx k f fd ps sp) (hr : Room k X.A) (hb : Binds X.K fd ps []) (hx : ∀ σ, PassesAt CXx X σ (E σ)) (ha : PA X (e :: es) t)
    (hst : starEach (e :: es) X.env = (false, eval e X.env) :: starEach es X.env := by rfl) (hpl : (backTo pos (starEach es X.env)).any (·.1) = false := by rfl)
    (ht : eval (.Call (.Attribute o m apos) (e :: es) [] pos) X.env = (do
      let ov ← eval o X.env
      standAt apos.atName
      let (f, first) ← holding [ov] (getMethod ov m pl)
      callWith pos f first (backTo pos (starEach (e :: es) X.env)) (backToKw pos (keywordEach [] X.env))) := by rfl) :
    PE X (.Call (.Attribute o m apos) (e :: es) [] pos) (tMethS C m sp E ta t) := by
  refine ⟨fun pins s σ H Q I h => ?_⟩
  refine PySem.W.methodCall_KW (pl := pl) (thn (he.run pins s σ H _ I h) fun u s1 ⟨x, H1, I1, rx, a, dx, fs, ex, ea, l, q⟩ => ?_) ht
  subst ex
  obtain rfl : u = Value.ref a := rx
  refine getmeth_ok I1 ea c hm l ?_
  refine PySem.W.callWith_K (first := [.ref a]) (h₀ := X.base) I.ok.mod.kin hm.kp (thn (ha.run pos pins s1 σ H1 _ I1 q) fun us s2 ⟨vs, H2, I2, r, q2⟩ => ⟨I2.kIn, ?_⟩) hst hpl
  exact run_fnS (us := .ref a :: us) (vs := .ref a :: vs) F hr hb (hx σ) I2 (.cons rfl r) q2
theorem pe_methX0 {pl : Sem Bool} (he : PE X o ta) (c : Cls X.K C) (hm : Meth X.K C m f) (F : FnOk X.prog X.w X.K X.mg X.base CXx k f fd ps sp) (hr : Room k X.A) (hb : Binds X.K fd ps []) (hx : ∀ σ, PassesAt CXx X σ (E σ))
    (ht : eval (.Call (.Attribute o m apos) [] [] pos) X.env = (do
      let ov ← eval o X.env
      standAt apos.atName
      let (f, first) ← holding [ov] (getMethod ov m pl)
      callWith pos f first (backTo pos (starEach [] X.env)) (backToKw pos (keywordEach [] X.env))) := by rfl) :
    PE X (.Call (.Attribute o m apos) [] [] pos) (tMethS C m sp E ta tNil) := by
  refine ⟨fun pins s σ H Q I h => ?_⟩
  refine PySem.W.methodCall_KW (pl := pl) (thn (he.run pins s σ H _ I h) fun u s1 ⟨x, H1, I1, rx, a, dx, fs, ex, ea, l, q⟩ => ?_) ht
  subst ex
  obtain rfl : u = Value.ref a := rx
  refine getmeth_ok I1 ea c hm l ?_
  exact PySem.W.callWith_K0 (first := [.ref a]) I1.kIn hm.kp (run_fnS (us := [.ref a]) (vs := [.ref a]) F hr hb (hx σ) I1 (.cons rfl .nil) q)
/-- C(..) -/
def tMakeS (C : Addr) (sp : Sp) (E : L2.St → XK) (t : TA) : TE := fun σ H Q => t σ H fun vs H1 => ∀ x dx, H1 x = none → H1 dx = none → dx ≠ x →
  sp (.ref x :: vs) (upd (upd H1 dx (.own x)) x (.ins C dx [])) (fun v H2 => v = .non ∧ Q (.ref x) H2) (E σ)
theorem run_makeS {pins : List (Addr × Obj)} {σ : L2.St} {H : Hp} {s : Shared} {Q : VK} {us : List Value} {vs : List V} (M : Mk X.K C f) (F : FnOk X.prog X.w X.K X.mg X.base CXx k f fd ps sp) (hr : Room (k + 1) X.A) (hb : Binds X.K fd ps [])
    (hx : PassesAt CXx X σ (E σ)) (I : Inv X pins σ H s) (r : Vals vs us)
    (h : ∀ x dx, H x = none → H dx = none → dx ≠ x → sp (.ref x :: vs) (upd (upd H dx (.own x)) x (.ins C dx [])) (fun v H2 => v = .non ∧ Q (.ref x) H2) (E σ)) :
    wpAny (model X.prog X.w) X.A (call (.ref C) us) (EP X pins σ Q) X.xe s := by
  have hq := h (s.heap.objs.size + 1) s.heap.objs.size (I.hok.fresh (Nat.le_succ _)) (I.hok.fresh (Nat.le_refl _)) (Nat.ne_of_lt (Nat.lt_succ_self _))
  have I2 := Inv.made (C := C) I
  have r2 : Vals (V.ref (s.heap.objs.size + 1) :: vs) (Value.ref (s.heap.objs.size + 1) :: us) := .cons rfl r
  have hl : (Value.ref (s.heap.objs.size + 1) :: us).length = ps.length := by
    have e := r2.length
    rw [F.len _ _ _ _ hq] at e
    exact e.symm
  have hb1 := hb _ (Value.ref (s.heap.objs.size + 1) :: us) I2.kIn (by rw [List.append_nil]; exact hl)
  rw [List.append_nil] at hb1
  refine wpAny_call (make_map (f := f) I.kIn M.makes M.init (beq_iff_eq.mp M.fn) (codeAny_mono (F.run _ X.stack _ _ ⟨Value.ref (s.heap.objs.size + 1) :: us, []⟩ (Value.ref (s.heap.objs.size + 1) :: us) _ _ (E σ) (hr.make C us [])
    (I2.env0.make C us []) hb1 r2 hq) fun r s' hq' => ?_))
  cases r with
  | error e => exact hx pins _ _ e s' I2 hq'
  | ok fl =>
    cases fl with
    | ret u =>
      obtain ⟨v, H', I3, rv, ev, q3⟩ := I2.after hq'
      subst ev
      exact ⟨rv, ⟨V.ref (s.heap.objs.size + 1), H', I3, rfl, q3⟩⟩
    | next => exact False.elim hq'
    | brk => exact False.elim hq'
    | cont => exact False.elim hq'
theorem pe_makeS (M : Mk X.K C f) (F : FnOk X.prog X.w X.K X.mg X.base CXx k f fd ps sp) (hr : Room (k + 1) X.A) (hg : Gl X x) (hm : X.mg x = some (.ref C)) (hb : Binds X.K fd ps []) (hx : ∀ σ, PassesAt CXx X σ (E σ))
    (ha : PA X (e :: es) t) (hdb : (x == ("__debug__" : Str)) = false := by decide) (he : starEach (e :: es) X.env = (false, eval e X.env) :: starEach es X.env := by rfl) (hpl : (backTo pos (starEach es X.env)).any (·.1) = false := by rfl) :
    PE X (.Call (.Name x p) (e :: es) [] pos) (tMakeS C sp E t) := by
  refine ⟨fun pins s σ H Q I h => ?_⟩
  refine wpAny_Call_Name_kw (ld_glob I hg hm ?_ hdb)
  refine PySem.W.callWith_K (h₀ := X.base) I.ok.mod.kin M.kp (thn (ha.run pos pins s σ H _ I h) fun us s1 ⟨vs, H1, I1, r, q⟩ => ⟨I1.kIn, ?_⟩) he hpl
  exact run_makeS M F hr hb (hx σ) I1 r q
/-- len(o), o's class has its own __len__ -/
theorem call_lenO (hm : Meth X.K C "__len__" f) (F : FnOk X.prog X.w X.K X.mg X.base (L2.CX X.prog X.w) k f fd ps sp) (hr : Room (k + 1) X.A) (hb : Binds X.K fd ps []) :
    CallR X (.builtin "len") (fun xs H Q => ∃ a dx fs, xs = [.ref a] ∧ H a = some (.ins C dx fs) ∧ sp [.ref a] H (fun v H2 => ∃ n : Int, v = .int n ∧ 0 ≤ n ∧ n < 2 ^ 63 ∧ Q (.int n) H2) (fun _ _ _ => False)) := by
  intro pins s σ H xs us Q I r h
  obtain ⟨a, dx, fs, rfl, ha, hs⟩ := h
  rw [Vals.ref1 r]
  obtain ⟨_, _, _, hget, _⟩ := I.hok a _ ha
  refine Calls.call_function_entry kind_len plain_len entry_len (args_len1 _) ?_
  unfold Builtin.«len»
  refine wpAny_bind (m := oneArg "len" _) (wpAny_pure ?_)
  have t1 : PySem.W.Looks (model X.prog X.w) s.heap (typeOf (.ref a)) (.ref C) := fun _ _ _ _ kk q => wpAny_typeOf_ref (kk _ _ hget) q
  have spc : PySem.W.Looks (model X.prog X.w) s.heap (specialOf (.ref a) "__len__") (some (.ref f)) := t1.andThen (PySem.W.looks_findIn I.kIn hm.at_)
  have run : wpAny (model X.prog X.w) X.A.in1 (call (.ref f) [.ref a]) (fun u s' => ∃ v H2, Inv X pins σ H2 s' ∧ RelV v u ∧ ∃ n : Int, v = .int n ∧ 0 ≤ n ∧ n < 2 ^ 63 ∧ Q (.int n) H2) X.xe s := by
    have e0 := I.env0.in1
    have r2 : Vals [V.ref a] [Value.ref a] := .cons rfl .nil
    have hl : ([Value.ref a] ++ []).length = ps.length := by
      have := F.len _ _ _ _ hs
      simpa using this
    have hb1 := hb s [.ref a] I.kIn hl
    rw [List.append_nil] at hb1
    refine wpAny_call (codeAny_mono (F.run X.A.in1 X.stack s H ⟨[.ref a], []⟩ [.ref a] [.ref a] _ _ hr.in1 e0 hb1 r2 hs) fun r s' hq => ?_)
    cases r with
    | error e =>
      obtain ⟨_, _, _, _, _, _, _, _, _, _, _, _, z⟩ := hq
      exact z.elim
    | ok fl =>
      cases fl with
      | next => exact False.elim hq
      | brk => exact False.elim hq
      | cont => exact False.elim hq
      | ret u =>
        obtain ⟨v, H', I3, rv, q3⟩ := I.after hq
        exact ⟨v, H', I3, rv, q3⟩
  have hty : PySem.W.Looks (model X.prog X.w) s.heap (typeOf (.ref f)) (.type "function") := PySem.W.looks_typeIn I.kIn (beq_iff_eq.mp hm.fn)
  have bsp : ∀ {R : Value × List Value → Shared → Prop}, R (.ref f, [.ref a]) s → wpAny (model X.prog X.w) X.A.in1 (bindSpecial (.ref f) (.ref a)) R X.xe s := fun {R} q => by
    unfold bindSpecial
    refine wpAny_bind (hty.here ?_)
    rw [if_pos (by decide)]
    exact wpAny_pure q
  have cs : ∀ {R : Option Value → Shared → Prop}, wpAny (model X.prog X.w) X.A.in1 (call (.ref f) [.ref a]) (fun v => R (some v)) X.xe s → wpAny (model X.prog X.w) X.A.in1 (callSpecial? (.ref a) (Str.ofString "__len__")) R X.xe s := fun {R} hc => by
    simp only [callSpecial?]
    refine wpAny_bind (spc.here ?_)
    refine wpAny_holding (wpAny_bind (bsp ?_))
    exact wpAny_bind (wpAny_mono hc (fun v s' h' => wpAny_pure h') fun _ _ h' => h')
  refine wpAny_bind (m := callSpecial? (.ref a) (Str.ofString "__len__")) (cs (wpAny_mono run (fun u s' hu => ?_) fun _ _ y => y))
  obtain ⟨v, H2, I2, rv, n, rfl, h0, h1, hq⟩ := hu
  obtain ⟨tk, rfl⟩ := (show ∃ t, u = Value.int n t from rv)
  refine wpAny_bind (wpAny_holding (wpAny_pure ?_))
  refine wpAny_bind (wpAny_letGo ?_)
  show wpAny _ _ (if n < 0 then _ else _) _ _ _
  rw [if_neg (by omega)]
  show wpAny _ _ (if n ≥ 2 ^ 63 then _ else _) _ _ _
  rw [if_neg (by omega)]
  exact wpAny_bind (wpAny_mkInt (wpAny_pure ⟨_, rfl, .int n, H2, I2.tok _, ⟨_, rfl⟩, hq⟩))
end
/-! ### the words -/
section
variable {X : Cx} {N : Ent} {W : WX} {e a b : Expr} {es : List Expr} {ma mb : M RV} {mr : M (List RV)} {pos apos : Pos} {i k n : Nat} {x m : Str} {px : Pos} {cls : Cl} {C f : Addr} {fd : FuncData} {ps : List Str} {F : FS}
/-- o.m(..), o in slot i -/
@[simp] def mMeth (i : Nat) (m : Str) (n : Nat) (F : FS) (mr : M (List RV)) (st : ST) : R RV := match insOf i st with
  | some (j, fs) => (match fs.lookup m with
    | none => (mr.bind fun r => fun st1 => match escAll r st1 with
      | some (q, st') => if q.length + 1 = n then (F (.hdl j :: q) st'.gs).inn st' else .stuck
      | none => .stuck) st
    | some _ => .stuck)
  | none => .stuck
theorem sem_meth {σ : L2.St} {H : Hp} {Q : VK} (I : InsC X.K cls C) (hcl : N.cls = cls) (h : semE N W (mMeth i m n F mr) σ H Q) : tMethS C m (spF cls n F) (WE W) (tVar i) (semA N W mr) σ H Q := by
  subst hcl
  obtain ⟨L, as1, st, rel, h⟩ := h
  unfold mMeth at h
  split at h
  · rename_i j fs ei
    obtain ⟨g1, g2⟩ := insOf_iff ei
    obtain ⟨p, dx, C', ws, ps, hsl, ia⟩ := rel.ins g1 g2
    have := I.eq ia.c
    subst this
    split at h
    · rename_i hl
      refine ⟨.ref p, hsl, p, dx, ws, rfl, ia.h, ia.al.none hl, ?_⟩
      refine sem_mono (fin_bind (P1 := VRels) rel h) fun vs H1 ⟨L3, as3, s3, rv3, r3, v3, x3, f3⟩ => ?_
      cases e1 : escAll rv3 s3 with
      | none => rw [e1] at f3; exact f3.elim
      | some pq =>
        obtain ⟨q, s4⟩ := pq
        rw [e1] at f3
        dsimp only at f3
        by_cases hq : q.length + 1 = n
        · rw [if_pos hq] at f3
          obtain ⟨L4, r4, x4, v4, n4⟩ := Rel.escAll r3 v3 e1
          have f4 := Fin.from f3 x4
          obtain ⟨fq, hq2⟩ := (x3.trans x4).pre.own j p _ ia.f
          refine ⟨by rw [List.length_cons, v4.length]; exact hq, as3, L4, .hdl j :: q, s4.gs, ⟨r4.live, r4.nt⟩, .cons ⟨p, fq, hq2, rfl⟩ (v4.bare n4), r4.g, ?_⟩
          cases e2 : F (.hdl j :: q) s4.gs with
          | stuck => rw [e2] at f4; exact f4.elim
          | ok r gs' =>
            rw [e2] at f4
            intro v H' L' as' sp g' vr
            obtain ⟨r5, x5⟩ := r4.after sp g'
            exact f4 L' as' v H' r5 vr.back x5
          | exc c gs' =>
            rw [e2] at f4
            intro H' L' as' sp g'
            obtain ⟨r5, x5⟩ := r4.after sp g'
            exact f4 L' as' H' r5 x5
        · rw [if_neg hq] at f3
          exact f3.elim
    · exact h.elim
  · exact h.elim
theorem je_meth {pl : Sem Bool} (I : InsC X.K cls C) (hcl : N.cls = cls) (hm : Meth X.K C m f) (G : FnOk X.prog X.w X.K X.mg X.base (L2.CX X.prog X.w) k f fd ps (spF cls n F)) (hr : Room k X.A) (hb : Binds X.K fd ps []) (tk : Takes X W) (ha : JA X N W (e :: es) mr)
    (hN : X.N[i]? = some x := by rfl) (hv : Vis X.env.scope x := by first | exact Or.inl rfl | exact Or.inr (Or.inl rfl) | exact Or.inr (Or.inr rfl)) (hd : (x == ("__debug__" : Str)) = false := by decide) (hcd : (x == ("__classdict__" : Str)) = false := by decide)
    (hst : starEach (e :: es) X.env = (false, eval e X.env) :: starEach es X.env := by rfl) (hpl : (backTo pos (starEach es X.env)).any (·.1) = false := by rfl)
    (ht : eval (.Call (.Attribute (.Name x px) m apos) (e :: es) [] pos) X.env = (do
      let ov ← eval (.Name x px) X.env
      standAt apos.atName
      let (f, first) ← holding [ov] (getMethod ov m pl)
      callWith pos f first (backTo pos (starEach (e :: es) X.env)) (backToKw pos (keywordEach [] X.env))) := by rfl) :
    JE X N W (.Call (.Attribute (.Name x px) m apos) (e :: es) [] pos) (mMeth i m n F mr) :=
  PE.weak (pe_methX (E := WE W) (pe_var hN hv hd hcd) I.c hm G hr hb (fun σ => passAt tk σ) ha hst hpl ht) fun σ H Q h => sem_meth I hcl h
theorem je_meth0 {pl : Sem Bool} (I : InsC X.K cls C) (hcl : N.cls = cls) (hm : Meth X.K C m f) (G : FnOk X.prog X.w X.K X.mg X.base (L2.CX X.prog X.w) k f fd ps (spF cls n F)) (hr : Room k X.A) (hb : Binds X.K fd ps []) (tk : Takes X W)
    (hN : X.N[i]? = some x := by rfl) (hv : Vis X.env.scope x := by first | exact Or.inl rfl | exact Or.inr (Or.inl rfl) | exact Or.inr (Or.inr rfl)) (hd : (x == ("__debug__" : Str)) = false := by decide) (hcd : (x == ("__classdict__" : Str)) = false := by decide)
    (ht : eval (.Call (.Attribute (.Name x px) m apos) [] [] pos) X.env = (do
      let ov ← eval (.Name x px) X.env
      standAt apos.atName
      let (f, first) ← holding [ov] (getMethod ov m pl)
      callWith pos f first (backTo pos (starEach [] X.env)) (backToKw pos (keywordEach [] X.env))) := by rfl) :
    JE X N W (.Call (.Attribute (.Name x px) m apos) [] [] pos) (mMeth i m n F mNil) := by
  refine PE.weak (pe_methX0 (E := WE W) (pe_var hN hv hd hcd) I.c hm G hr hb (fun σ => passAt tk σ) ht) fun σ H Q h => ?_
  obtain ⟨x1, h1, p, dx, ws, e1, e2, e3, h2⟩ := sem_meth I hcl h
  refine ⟨x1, h1, p, dx, ws, e1, e2, e3, ?_⟩
  obtain ⟨L, as1, st, rel, h3⟩ := h2
  exact h3 L as1 [] H rel .nil .refl
/-- C(..) -/
@[simp] def mMake (n : Nat) (F : FS) (mr : M (List RV)) (st0 : ST) : R RV := (mr.bind fun r => fun st => match escAll r st with
  | some (q, st') => if q.length + 1 = n then (match F (.hdl st'.gs.length :: q) (st'.gs ++ [.ins []]) with
    | .ok (.dat .none) gs' => .ok (.hdl st'.gs.length) { st' with gs := gs' }
    | .exc c gs' => .exc c { st' with gs := gs' }
    | _ => .stuck) else .stuck
  | none => .stuck) st0
theorem je_make (I : InsC X.K cls C) (hcl : N.cls = cls) (M : Mk X.K C f) (G : FnOk X.prog X.w X.K X.mg X.base (L2.CX X.prog X.w) k f fd ps (spF cls n F)) (hr : Room (k + 1) X.A) (hm : X.mg x = some (.ref C)) (hb : Binds X.K fd ps []) (tk : Takes X W) (ha : JA X N W (e :: es) mr)
    (hg : Gl X x := by rfl) (hdb : (x == ("__debug__" : Str)) = false := by decide) (he : starEach (e :: es) X.env = (false, eval e X.env) :: starEach es X.env := by rfl) (hpl : (backTo pos (starEach es X.env)).any (·.1) = false := by rfl) :
    JE X N W (.Call (.Name x px) (e :: es) [] pos) (mMake n F mr) := by
  subst hcl
  refine PE.weak (pe_makeS (E := WE W) M G hr hg hm hb (fun σ => passAt tk σ) ha hdb he hpl) fun σ H Q ⟨L, as1, st, rel, h⟩ => ?_
  refine sem_mono (fin_bind (P1 := VRels) rel h) fun vs H1 ⟨L3, as3, s3, rv3, r3, v3, x3, f3⟩ => ?_
  intro p dx np ndx ndp
  cases e1 : escAll rv3 s3 with
  | none => rw [e1] at f3; exact f3.elim
  | some pq =>
    obtain ⟨q, s4⟩ := pq
    rw [e1] at f3
    dsimp only at f3
    by_cases hq : q.length + 1 = n
    · rw [if_pos hq] at f3
      obtain ⟨L4, r4, x4, v4, n4⟩ := Rel.escAll r3 v3 e1
      have f4 := Fin.from f3 x4
      obtain ⟨r5, x5⟩ := r4.pushO (H' := upd (upd H1 dx (.own p)) p (.ins C dx [])) (fp := [p, dx]) (go := .ins []) (fun b hb => by
        rcases List.mem_cons.mp hb with rfl | hb
        · exact np
        · rw [List.mem_singleton.mp hb]; exact ndx) (by simp [Ne.symm ndp]) (fun b hb => by
        rw [upd_ne (fun z => hb (by simp [z])), upd_ne (fun z => hb (by simp [z]))]) (fun b hb => by
        by_cases zp : b = p
        · subst zp; exact ⟨_, upd_same, fun _ z => nomatch z⟩
        · have zd : b = dx := by
            rcases List.mem_cons.mp hb with z | hb
            · exact absurd z zp
            · exact List.mem_singleton.mp hb
          subst zd
          exact ⟨.own p, by rw [upd_ne zp, upd_same], fun _ z => nomatch z⟩) ⟨p, dx, C, [], [], rfl, I.L, upd_same, by rw [upd_ne ndp, upd_same], .nil⟩
      have f5 := Fin.from f4 x5
      have gl : s4.gs.length = as3.length := r4.g.glen.symm
      refine ⟨by rw [List.length_cons, v4.length]; exact hq, as3 ++ [[p, dx]], [p, dx] ++ L4, .hdl s4.gs.length :: q, s4.gs ++ [.ins []], ⟨r5.live, r5.nt⟩, .cons ⟨p, [dx], ?_, rfl⟩ ((v4.bare n4).ext x5), r5.g, ?_⟩
      · rw [gl, List.getElem?_append_right (Nat.le_refl _), Nat.sub_self]
        rfl
      · have hp : (as3 ++ [[p, dx]])[s4.gs.length]? = some [p, dx] := by
          rw [gl, List.getElem?_append_right (Nat.le_refl _), Nat.sub_self]
          rfl
        cases e2 : F (.hdl s4.gs.length :: q) (s4.gs ++ [.ins []]) with
        | stuck => rw [e2] at f5; exact f5.elim
        | ok r gs' =>
          rw [e2] at f5
          intro v H' L' as' sp g' vr
          obtain ⟨r6, x6⟩ := r5.after sp g'
          obtain ⟨fq, hq3⟩ := x6.pre.own _ _ _ hp
          cases r with
          | hdl _ => exact f5.elim
          | bor _ => exact f5.elim
          | dat d =>
            cases d with
            | none =>
              refine ⟨?_, f5 L' as' _ H' r6 ⟨p, fq, hq3, rfl⟩ x6⟩
              have vr' : At (mask H' L') v .none := vr
              cases vr'
              rfl
            | bool _ => exact f5.elim
            | int _ => exact f5.elim
            | str _ => exact f5.elim
            | list _ => exact f5.elim
            | tuple _ => exact f5.elim
            | dict _ => exact f5.elim
        | exc c gs' =>
          rw [e2] at f5
          intro H' L' as' sp g'
          obtain ⟨r6, x6⟩ := r5.after sp g'
          exact f5 L' as' H' r6 x6
    · rw [if_neg hq] at f3
      exact f3.elim
/-- len(o), o in slot i -/
@[simp] def mLenO (i : Nat) (F : FS) (st : ST) : R RV := match insOf i st with
  | some (j, _) => (match F [.hdl j] st.gs with
    | .ok (.dat (.int n)) gs' => if 0 ≤ n ∧ n < 1000000 then .ok (.dat (.int n)) { st with gs := gs' } else .stuck
    | _ => .stuck)
  | none => .stuck
theorem je_lenO {p : Pos} (I : InsC X.K cls C) (hcl : N.cls = cls) (hm : Meth X.K C "__len__" f) (G : FnOk X.prog X.w X.K X.mg X.base (L2.CX X.prog X.w) k f fd ps (spF cls 1 F)) (hr : Room (k + 1) X.A) (hb : Binds X.K fd ps []) (hml : X.mg "len" = none)
    (hN : X.N[i]? = some x := by rfl) (hv : Vis X.env.scope x := by first | exact Or.inl rfl | exact Or.inr (Or.inl rfl) | exact Or.inr (Or.inr rfl)) (hd : (x == ("__debug__" : Str)) = false := by decide) (hcd : (x == ("__classdict__" : Str)) = false := by decide)
    (hg : Gl X "len" := by rfl) (he : starEach [.Name x px] X.env = (false, eval (.Name x px) X.env) :: starEach [] X.env := by rfl) (hpl : (backTo pos (starEach [] X.env)).any (·.1) = false := by rfl) :
    JE X N W (.Call (.Name "len" p) [.Name x px] [] pos) (mLenO i F) := by
  subst hcl
  refine PE.weak (pe_callB (call_lenO hm G hr hb) hg hml PySem.boot_len (pa_cons (pe_var hN hv hd hcd) pa_nil he) (by decide) (by decide) he hpl) fun σ H Q ⟨L, as1, st, rel, h⟩ => ?_
  unfold mLenO at h
  split at h
  · rename_i j fs ei
    obtain ⟨g1, g2⟩ := insOf_iff ei
    obtain ⟨q, dx, C', ws, ps', hsl, ia⟩ := rel.ins g1 g2
    have := I.eq ia.c
    subst this
    refine ⟨.ref q, hsl, q, dx, ws, rfl, ia.h, rfl, as1, L, [.hdl j], st.gs, ⟨rel.live, rel.nt⟩, .cons ⟨q, _, ia.f, rfl⟩ .nil, rel.g, ?_⟩
    split at h
    · rename_i nn gs' eF
      split at h
      · rename_i hn
        rw [eF]
        intro v H' L' as' sp g' vr
        obtain ⟨r6, x6⟩ := rel.after sp g'
        have vr' : At (mask H' L') v (.int nn) := vr
        cases vr'
        exact ⟨nn, rfl, hn.1, by have := hn.2; omega, h L' as' _ H' r6 (.int _) x6⟩
      · exact h.elim
    · exact h.elim
  · exact h.elim
end
end JL
/-! J50: [x for x, y in xs], xs a list of one's own (it stays one's own). -/
namespace JL
open PySem PySem.Spec PyProof.Rows L2
/-- item p of each pair -/
def pickP (p : Nat) : List PyData → Option (List PyData)
  | [] => some []
  | .tuple [d1, d2] :: r => (pickP p r).bind fun rs => some ((if p = 0 then d1 else d2) :: rs)
  | _ :: _ => none
theorem pickP_len {p : Nat} : ∀ {ds rs : List PyData}, pickP p ds = some rs → rs.length = ds.length
  | [], _, e => by simp only [pickP] at e; cases e; rfl
  | d :: r, _, e => by
    unfold pickP at e
    split at e
    · rename_i h; cases h
    · rename_i d1 d2 r' h
      cases h
      cases q : pickP p r with
      | none => rw [q] at e; cases e
      | some rs =>
        rw [q] at e
        simp only [Option.bind_some] at e
        cases e
        rw [List.length_cons, List.length_cons, pickP_len q]
    · cases e
theorem pickP_at {p : Nat} : ∀ {ds rs : List PyData} {k : Nat} {d : PyData}, pickP p ds = some rs → ds[k]? = some d → ∃ d1 d2, d = .tuple [d1, d2] ∧ rs[k]? = some (if p = 0 then d1 else d2)
  | [], _, _, _, _, h => by simp at h
  | x :: r, _, k, _, e, h => by
    unfold pickP at e
    split at e
    · rename_i z; cases z
    · rename_i d1 d2 r' z
      cases z
      cases q : pickP p r with
      | none => rw [q] at e; cases e
      | some rs =>
        rw [q] at e
        simp only [Option.bind_some] at e
        cases e
        cases k with
        | zero =>
          rw [List.getElem?_cons_zero] at h
          cases h
          exact ⟨d1, d2, rfl, rfl⟩
        | succ k =>
          rw [List.getElem?_cons_succ] at h
          obtain ⟨e1, e2, h1, h2⟩ := pickP_at q h
          exact ⟨e1, e2, h1, by rw [List.getElem?_cons_succ]; exact h2⟩
    · cases e
section
variable {X : Cx} {N : Ent} {W : WX} {e a b : Expr} {pos : Pos}
theorem lc_pairs {K : PySem.W.Frag} {w : Addr} {ws : List V} {i j p : Nat} {vs : List Nat} {ds rs : List PyData} {L : List Addr} {H1 : Hp} {σ : L2.St} {Q : VK} {D : Addr} (hi : i < σ.length) (hj : j < σ.length) (hij : i ≠ j) (hp : p = 0 ∨ p = 1) (hiv : i ∈ vs) (hjv : j ∈ vs) (hlen : ds.length < maxLen) (nD : H1 D = none)
    (hw : H1 w = some (.lst ws)) (ha : Ats (mask H1 L) ws ds) (hd : pickP p ds = some rs) (fin : ∀ Hc acc, Same H1 Hc → Hc D = some (.lst acc) → Ats (mask H1 L) acc rs → Q (.ref D) Hc) :
    ∃ Wv : Nat → Nat → Hp → Prop, (∃ m, Wv 0 m (upd H1 D (.lst []))) ∧ ∀ k m H, Wv k m H → ((Itl K w).stop k H ∧ Q (.ref D) H) ∨ ((Itl K w).go k H ∧ ∃ Nx : Hp → Prop, (∀ H', Nx H' → ∃ m', m' < m ∧ Wv (k + 1) m' H') ∧
      ∀ x H', (Itl K w).yld k H x H' → gTup K 2 (gAll [i, j]) x (L2.wipe σ vs) H' fun σ2 H2 => L2.wipe σ2 vs = L2.wipe σ vs ∧ tYes σ2 H2 fun b H3 =>
        if b = true then tVar (if p = 0 then i else j) σ2 H3 fun y H4 => ∃ acc, H4 D = some (.lst acc) ∧ acc.length < sizeLine ∧ Nx (upd H4 D (.lst (acc ++ [y]))) else Nx H3) := by
  refine ⟨fun k m Hc => m = ds.length - k ∧ k ≤ ds.length ∧ ∃ acc, Same H1 Hc ∧ Hc D = some (.lst acc) ∧ Ats (mask H1 L) acc (rs.take k), ⟨_, rfl, Nat.zero_le _, [], same_new nD, upd_same, by rw [List.take_zero]; exact .nil⟩, ?_⟩
  rintro k m Hc ⟨rfl, hk, acc, sm, hD, hall⟩
  by_cases hlt : k < ds.length
  · right
    obtain ⟨d1, d2, ed, er⟩ := pickP_at hd (List.getElem?_eq_getElem hlt)
    obtain ⟨v, g1, g2⟩ := ha.get (List.getElem?_eq_getElem hlt)
    rw [ed] at g2
    refine ⟨⟨ws, v, SqL.of (sm _ _ hw), g1⟩, fun H' => ∃ acc, Same H1 H' ∧ H' D = some (.lst acc) ∧ Ats (mask H1 L) acc (rs.take (k + 1)), fun H' q => ⟨_, by omega, rfl, hlt, q⟩, fun x H' yy => ?_⟩
    obtain ⟨eH, y⟩ := yy
    subst eH
    have ev := y ws (SqL.of (sm _ _ hw))
    rw [g1] at ev
    cases ev
    cases g2 with
    | tup hT hs =>
      rename_i T xs
      cases hs with
      | cons a1 t1 =>
        cases t1 with
        | cons a2 t2 =>
          cases t2
          rename_i x1 x2
          have hT' : H' T = some (.tup [x1, x2]) := sm _ _ (mask_same _ _ hT)
          have hl2 : (L2.wipe σ vs).length = σ.length := wipe_len vs
          refine ⟨T, [x1, x2], rfl, SqT.of hT', rfl, x1, [x2], rfl, x2, [], rfl, rfl, ?_, ?_⟩
          · rw [wipe_set hjv, wipe_set hiv, wipe_wipe]
          · have g1 : (((L2.wipe σ vs).set i (some x1)).set j (some x2))[i]? = some (some x1) := by
              rw [List.getElem?_set_ne (Ne.symm hij), List.getElem?_set_self (by omega)]
            have g2 : (((L2.wipe σ vs).set i (some x1)).set j (some x2))[j]? = some (some x2) := List.getElem?_set_self (by rw [List.length_set]; omega)
            unfold tYes
            dsimp only
            rw [if_pos rfl]
            have et : rs.take (k + 1) = rs.take k ++ [if p = 0 then d1 else d2] := by rw [List.take_add_one, er]; rfl
            have hl : acc.length < sizeLine := by
              have h1 := hall.length
              rw [List.length_take] at h1
              have hm : maxLen ≤ sizeLine := by decide
              omega
            have sm2 : ∀ z : V, Same H1 (upd H' D (.lst (acc ++ [z]))) := fun z b u hb => by
              rw [upd_ne (ne_of_none hb nD)]
              exact sm _ _ hb
            rcases hp with rfl | rfl
            · refine ⟨x1, g1, acc, hD, hl, acc ++ [x1], sm2 _, upd_same, ?_⟩
              rw [et]
              exact hall.append (Ats.one a1)
            · refine ⟨x2, g2, acc, hD, hl, acc ++ [x2], sm2 _, upd_same, ?_⟩
              rw [et]
              exact hall.append (Ats.one a2)
  · left
    have ek : k = ds.length := by omega
    subst ek
    rw [List.take_of_length_le (by rw [pickP_len hd]; exact Nat.le_refl _)] at hall
    exact ⟨⟨ws, SqL.of (sm _ _ hw), by rw [ha.length]; exact Nat.le_refl _⟩, fin Hc acc sm hD hall⟩
variable {scope : Scope} {own : List (Str × Nat)} {elt : Expr} {x : Str} {px : Pos} {k i j p : Nat}
@[simp] def mLcP (k i j p : Nat) (st : ST) : R RV := match st.sl[k]? with
  | some (.own ds) => (match pickP p ds with
    | some rs => if i < st.sl.length ∧ j < st.sl.length ∧ ds.length < maxLen then .ok (.dat (.list rs)) st else .stuck
    | none => .stuck)
  | _ => .stuck
theorem je_lcP {tgs : List Expr} {kk : Nat} {pt : Pos} (hN : X.N.Nodup) (ok : BlkOk X.N X.env.scope scope own)
    (hgs : ∀ (s : Shared) (H : Hp) (C : Addr) (cl : List (Str × Addr)) (fp : List Addr), PGs (X.blk s H scope (compEnvC scope cl C X.env) fp) tgs (gAll [i, j]))
    (hst2 : ∀ (s : Shared) (H : Hp) (C : Addr) (cl : List (Str × Addr)) (fp : List Addr), (X.blk s H scope (compEnvC scope cl C X.env) fp).calm = true ∧ (assignEach tgs (X.blk s H scope (compEnvC scope cl C X.env) fp).env).length = 2 ∧ (assignEach tgs (X.blk s H scope (compEnvC scope cl C X.env) fp).env).findIdx? (·.1) = none)
    (he : ∀ (s : Shared) (H : Hp) (C : Addr) (cl : List (Str × Addr)) (fp : List Addr), PE (X.blk s H scope (compEnvC scope cl C X.env) fp) elt (tVar (if p = 0 then i else j)))
    (hN2 : X.N[k]? = some x := by rfl) (hv : Vis X.env.scope x := by first | exact Or.inl rfl | exact Or.inr (Or.inl rfl) | exact Or.inr (Or.inr rfl)) (hd : (x == ("__debug__" : Str)) = false := by decide) (hcd : (x == ("__classdict__" : Str)) = false := by decide)
    (hij : i ≠ j := by decide) (hp : p = 0 ∨ p = 1 := by decide) (hiv : i ∈ own.map (·.2) := by decide) (hjv : j ∈ own.map (·.2) := by decide) (hc : X.calm = true := by rfl) (hfs : ∀ z, foldedSetIterable (.Name x px) X.env z = pure z := by intro _; rfl) :
    JE X N W (.ListComp elt [⟨.Tuple tgs kk pt, .Name x px, [], 0⟩] scope pos) (mLcP k i j p) := by
  refine PE.weak (pe_lc (g := gTup X.K 2 (gAll [i, j])) hc hN (pi_seq (pe_var hN2 hv hd hcd)) ok (fun s H C cl fp => pg_tup (hst2 s H C cl fp).1 (hgs s H C cl fp) (hst2 s H C cl fp).2.1 (hst2 s H C cl fp).2.2) (fun _ _ _ _ _ => pts_nil) he hfs) fun σ H Q ⟨L, as1, st, rel, h⟩ => ?_
  unfold mLcP at h
  split at h
  · rename_i ds eo
    split at h
    · rename_i rs ep
      split at h
      · rename_i hl
        obtain ⟨l1, l2, l3⟩ := hl
        obtain ⟨w, ws, hsl, hw, ha, _⟩ := rel.own k ds eo
        refine ⟨_, hsl, .inl ⟨w, rfl, ⟨ws, SqL.of hw⟩, fun D nD => ?_⟩⟩
        refine lc_pairs (L := L) (rs := rs) (by rw [← rel.len]; exact l1) (by rw [← rel.len]; exact l2) hij hp hiv hjv l3 nD hw ha ep fun Hc acc sm hD hall => ?_
        exact fin_dat rel h sm (.lst (mask_of hD fun z => rel.live D z nD) (hall.mono (mask_grow sm)))
      · exact h.elim
    · exact h.elim
  · exact h.elim
/-- .. of a field -/
@[simp] def mLcF (k : Nat) (f : Str) (i j p : Nat) (st : ST) : R RV := match insOf k st with
  | some (_, fs) => (match fs.lookup f with
    | some (.own ds) => (match pickP p ds with
      | some rs => if i < st.sl.length ∧ j < st.sl.length ∧ ds.length < maxLen then .ok (.dat (.list rs)) st else .stuck
      | none => .stuck)
    | _ => .stuck)
  | _ => .stuck
theorem je_lcF {cls : Cl} {C : Addr} {f : Str} {tgs : List Expr} {kk : Nat} {pt pf : Pos} (I : InsC X.K cls C) (hcl : N.cls = cls) (hn : NoAttr X.K C f) (hN : X.N.Nodup) (ok : BlkOk X.N X.env.scope scope own)
    (hgs : ∀ (s : Shared) (H : Hp) (C : Addr) (cl : List (Str × Addr)) (fp : List Addr), PGs (X.blk s H scope (compEnvC scope cl C X.env) fp) tgs (gAll [i, j]))
    (hst2 : ∀ (s : Shared) (H : Hp) (C : Addr) (cl : List (Str × Addr)) (fp : List Addr), (X.blk s H scope (compEnvC scope cl C X.env) fp).calm = true ∧ (assignEach tgs (X.blk s H scope (compEnvC scope cl C X.env) fp).env).length = 2 ∧ (assignEach tgs (X.blk s H scope (compEnvC scope cl C X.env) fp).env).findIdx? (·.1) = none)
    (he : ∀ (s : Shared) (H : Hp) (C : Addr) (cl : List (Str × Addr)) (fp : List Addr), PE (X.blk s H scope (compEnvC scope cl C X.env) fp) elt (tVar (if p = 0 then i else j)))
    (hN2 : X.N[k]? = some x := by rfl) (hv : Vis X.env.scope x := by first | exact Or.inl rfl | exact Or.inr (Or.inl rfl) | exact Or.inr (Or.inr rfl)) (hd : (x == ("__debug__" : Str)) = false := by decide) (hcd : (x == ("__classdict__" : Str)) = false := by decide)
    (hb1 : attributeBase (.Name x px) f X.env (eval (.Name x px) X.env) = eval (.Name x px) X.env := by rfl)
    (hij : i ≠ j := by decide) (hp : p = 0 ∨ p = 1 := by decide) (hiv : i ∈ own.map (·.2) := by decide) (hjv : j ∈ own.map (·.2) := by decide) (hc : X.calm = true := by rfl) (hfs : ∀ z, foldedSetIterable (.Attribute (.Name x px) f pf) X.env z = pure z := by intro _; rfl) :
    JE X N W (.ListComp elt [⟨.Tuple tgs kk pt, .Attribute (.Name x px) f pf, [], 0⟩] scope pos) (mLcF k f i j p) := by
  subst hcl
  refine PE.weak (pe_lc (g := gTup X.K 2 (gAll [i, j])) hc hN (pi_seq (pe_fld (pe_var hN2 hv hd hcd) hb1)) ok (fun s H C cl fp => pg_tup (hst2 s H C cl fp).1 (hgs s H C cl fp) (hst2 s H C cl fp).2.1 (hst2 s H C cl fp).2.2) (fun _ _ _ _ _ => pts_nil) he hfs) fun σ H Q ⟨L, as1, st, rel, h⟩ => ?_
  unfold mLcF at h
  split at h
  · rename_i jj fs ei
    obtain ⟨g1, g2⟩ := insOf_iff ei
    obtain ⟨q, dx, C', ws', ps', hsl, ia⟩ := rel.ins g1 g2
    have := I.eq ia.c
    subst this
    split at h
    · rename_i ds l0
      obtain ⟨w, ws, w1, w2, hw, ha⟩ := ia.al.getO l0
      split at h
      · rename_i rs ep
        split at h
        · rename_i hl
          obtain ⟨l1, l2, l3⟩ := hl
          refine ⟨_, hsl, q, C', dx, ws', .ref w, rfl, ia.h, I.c, hn, w1, .inl ⟨w, rfl, ⟨ws, SqL.of hw⟩, fun D nD => ?_⟩⟩
          refine lc_pairs (L := L) (rs := rs) (by rw [← rel.len]; exact l1) (by rw [← rel.len]; exact l2) hij hp hiv hjv l3 nD hw ha ep fun Hc acc sm hD hall => ?_
          exact fin_dat rel h sm (.lst (mask_of hD fun z => rel.live D z nD) (hall.mono (mask_grow sm)))
        · exact h.elim
      · exact h.elim
    · exact h.elim
  · exact h.elim
end
end JL
/-! J51: a, b = [], []; methods' facts. -/
namespace JL
open PySem PySem.Spec PyProof.Rows L2
section
variable {X : Cx} {N : Ent} {W : WX} {pos : Pos}
@[simp] def mParLL (i j : Nat) (st : ST) : R Flw := if i ≠ j ∧ i < st.sl.length ∧ j < st.sl.length then .ok .nx { st with sl := (st.sl.set i (.own [])).set j (.own []) } else .stuck
theorem js_parLL {i j : Nat} {x y : Str} {px py pl pl2 pt pt2 : Pos} {kt k2 : Nat} (hN : X.N.Nodup) (hw : swappedStores [.Tuple [.Name x px, .Name y py] kt pt] (.Tuple [.List [] pl, .List [] pl2] k2 pt2) X.env = pure (some [x, y]) := by rfl) (hc : X.calm = true := by rfl) (hi : X.N[i]? = some x := by rfl) (hj : X.N[j]? = some y := by rfl) (hij : i ≠ j := by decide)
    (hx : X.env.scope.names.lookup x = some .local := by rfl) (hy : X.env.scope.names.lookup y = some .local := by rfl)
    (hs : swapsWithSole [.Tuple [.Name x px, .Name y py] kt pt] (.Tuple [.List [] pl, .List [] pl2] k2 pt2) pos.line X.env = pure false := by rfl) (hs1 : starEach [.List [] pl, .List [] pl2] X.env = (false, eval (.List [] pl) X.env) :: starEach [.List [] pl2] X.env := by rfl) (hs2 : starEach [.List [] pl2] X.env = (false, eval (.List [] pl2) X.env) :: starEach [] X.env := by rfl) :
    JS X N W (.Assign [.Tuple [.Name x px, .Name y py] kt pt] (.Tuple [.List [] pl, .List [] pl2] k2 pt2) pos) (mParLL i j) := by
  refine PS.weak (ps_par hc hN hi hj hij hx hy (pa_cons (pe_lst pa_nil) (pa_cons (pe_lst pa_nil) pa_nil hs2) hs1) hw hs) fun D σ H ⟨L, as1, st, rel, h⟩ => ?_
  unfold mParLL at h
  split at h
  · rename_i hl
    refine ⟨Nat.zero_le _, fun p np => ⟨Nat.zero_le _, fun q nq => ⟨_, _, rfl, ?_⟩⟩⟩
    have r1 := rel.setOwn (i := i) (by rw [← rel.len]; exact hl.2.1) np (.nil : Ats (mask H L) [] [])
    have r2 := r1.setOwn (i := j) (by rw [List.length_set, ← rel.len]; exact hl.2.2) nq (.nil : Ats _ [] [])
    exact h _ as1 _ _ r2 (⟨(same_guard np).trans (same_guard nq), .refl⟩)
  · exact h.elim
end
/-- a method: its def, its place in the class -/
def MDef (K : PySem.W.Frag) (C : Addr) (m qual : Str) (st : Stmt) (ps : List Str) : Prop := ∃ (f : Addr) (fd : FuncData), Fun K m qual st f fd ∧ Meth K C m f ∧ ∀ us : List Value, us.length = ps.length → bindArgs fd ⟨us, []⟩ = pure (ps.zip us)
theorem mdef_mk {K : PySem.W.Frag} {m qual : Str} {st : Stmt} {ps : List Str} {C f : Addr} {oc kV dc pm cd ct : Value} {od an : Option Addr} {sl : Array (Option Value)} {mg : Str → Option Value} {y : Str} {h : Heap} (X : K.In h) (G : h.Ns mainGlobals mg) (a0 : PySem.W.nsIn K mainGlobals y = some (some (.ref C))) {C' : Addr} (hC : mg y = some (.ref C'))
    (a : PySem.W.findIn K (.ref C) m = some (some (.ref f))) (l : K.lookup f = some ⟨oc, od, .func (PySem.W.fnOf m qual (defArgs st) (defBody st) (defScope st) .none kV dc pm an cd ct), sl⟩) (c : PySem.W.codeIn K cd qual = true) (k : PySem.W.keepIn K (.ref f) = true) (fn : PySem.W.isFn K (.ref f) = true)
    (hb : ∀ (kV doc pm : Value) (an : Option Addr) (cdv ct : Value) (us : List Value), us.length = ps.length → bindArgs (PySem.W.fnOf m qual (defArgs st) (defBody st) (defScope st) .none kV doc pm an cdv ct) ⟨us, []⟩ = pure (ps.zip us)) : MDef K C' m qual st ps := by
  have e := PySem.W.mg_of X G a0
  rw [hC] at e
  cases e
  have F := fun_mk (x := m) (st := st) l c k
  exact ⟨f, _, F, ⟨a, fn, k⟩, hb _ _ _ _ _ _⟩
/-- the class's facts -/
structure AlbC (K : PySem.W.Frag) (mg : Str → Option Value) (y : Str) (C : Addr) : Prop where
  g : mg y = some (.ref C)
  c : Cls K C
  mks : PySem.W.makesIn K C = true
  kp : PySem.W.keepIn K (.ref C) = true
theorem albC_mk {K : PySem.W.Frag} {mg : Str → Option Value} {y : Str} {C : Addr} {h : Heap} (X : K.In h) (G : h.Ns mainGlobals mg) (a : PySem.W.nsIn K mainGlobals y = some (some (.ref C))) (pg : PySem.W.plainGet K C Str.empty = true) (hd : PySem.W.hasDictIn K C = true) (po : PySem.W.plainOver K C = true)
    (sa : PySem.W.findIn K (.ref C) "__setattr__" = some (some (.builtin "object.__setattr__"))) (mk : PySem.W.makesIn K C = true) (kp : PySem.W.keepIn K (.ref C) = true) : ∃ C, AlbC K mg y C := ⟨C, PySem.W.mg_of X G a, ⟨pg, hd, po, sa⟩, mk, kp⟩
theorem noattr_mk {K : PySem.W.Frag} {mg : Str → Option Value} {y : Str} {C C' : Addr} {h : Heap} {f : Str} (X : K.In h) (G : h.Ns mainGlobals mg) (hC : mg y = some (.ref C')) (a : PySem.W.nsIn K mainGlobals y = some (some (.ref C))) (n : PySem.W.findIn K (.ref C) f = some none) : NoAttr K C' f := by
  have e := PySem.W.mg_of X G a
  rw [hC] at e
  cases e
  exact n
theorem AlbC.mk' {K : PySem.W.Frag} {mg : Str → Option Value} {y : Str} {C f : Addr} (A : AlbC K mg y C) (m : Meth K C "__init__" f) : Mk K C f := ⟨A.mks, m.at_, m.fn, A.kp⟩
end JL
/-! J52: the facts of the classes, put together; a name that is another name of a def. -/
namespace JL
open PySem PySem.Spec PyProof.Rows L2
/-- the classes by number: 100 the table of codes, 101 the class with methods -/
def clsOf (ad : Nat → Addr) (t C : Addr) : Cl := clOf fun n => if n = 101 then .ref C else if n = 100 then .ref t else .ref (ad n)
theorem clsOf_101 {ad : Nat → Addr} {t C : Addr} : clsOf ad t C 101 = .ref C := rfl
theorem clsOf_100 {ad : Nat → Addr} {t C : Addr} : clsOf ad t C 100 = .ref t := rfl
theorem clsOf_err {ad : Nat → Addr} {t C : Addr} {c : Nat} (h : okE c = true) : clsOf ad t C c = .ref (ad c) := by
  have := okE_iff h
  show (if c = 101 then Value.ref C else if c = 100 then .ref t else .ref (ad c)) = .ref (ad c)
  rw [if_neg (by omega), if_neg (by omega)]
theorem kit_mk {K : PySem.W.Frag} {h : Heap} {mg : Str → Option Value} {x y : Str} {C D C' D' : Addr} {b : Bool} (X : K.In h) (G : h.Ns mainGlobals mg) (hC : mg x = some (.ref C')) (hD : mg y = some (.ref D')) (a : PySem.W.nsIn K mainGlobals x = some (some (.ref C))) (a' : PySem.W.nsIn K mainGlobals y = some (some (.ref D))) (k : PySem.W.kitOne K (.ref C) (.ref D) = some b) : PySem.W.kitOne K (.ref C') (.ref D') = some b := by
  have e1 := PySem.W.mg_of X G a
  have e2 := PySem.W.mg_of X G a'
  rw [hC] at e1
  rw [hD] at e2
  cases e1
  cases e2
  exact k
theorem exm_mk {K : PySem.W.Frag} {h : Heap} {mg : Str → Option Value} {x y : Str} {C D C' D' : Addr} {b : Bool} (X : K.In h) (G : h.Ns mainGlobals mg) (hC : mg x = some (.ref C')) (hD : mg y = some (.ref D')) (a : PySem.W.nsIn K mainGlobals x = some (some (.ref C))) (a' : PySem.W.nsIn K mainGlobals y = some (some (.ref D))) (k : PySem.W.exmOne K (.ref C) (.ref D) = some b) : PySem.W.exmOne K (.ref C') (.ref D') = some b := by
  have e1 := PySem.W.mg_of X G a
  have e2 := PySem.W.mg_of X G a'
  rw [hC] at e1
  rw [hD] at e2
  cases e1
  cases e2
  exact k
theorem alias_mk {K : PySem.W.Frag} {h : Heap} {mg : Str → Option Value} {x y : Str} {C C' : Addr} (X : K.In h) (G : h.Ns mainGlobals mg) (hC : mg x = some (.ref C')) (a : PySem.W.nsIn K mainGlobals x = some (some (.ref C))) (a' : PySem.W.nsIn K mainGlobals y = some (some (.ref C))) : mg y = some (.ref C') := by
  have e1 := PySem.W.mg_of X G a
  rw [hC] at e1
  cases e1
  exact PySem.W.mg_of X G a'
theorem ex_mk {K : PySem.W.Frag} {h : Heap} {mg : Str → Option Value} {x : Str} {C : Addr} (X : K.In h) (G : h.Ns mainGlobals mg) (a : PySem.W.nsIn K mainGlobals x = some (some (.ref C))) : ∃ C : Addr, mg x = some (.ref C) := ⟨C, PySem.W.mg_of X G a⟩
theorem errs_mk {K : PySem.W.Frag} {mg : Str → Option Value} {a0 a1 a2 a3 a4 a5 a6 a7 : Addr} (t C : Addr) (g0 : mg "TreeError" = some (.ref a0)) (x1 : ExcT K mg "BadTree" a1) (x2 : ExcT K mg "BadKey" a2) (x3 : ExcT K mg "BadKeys" a3) (x4 : ExcT K mg "BadNumber" a4) (x5 : ExcT K mg "BadValues" a5) (x6 : ExcT K mg "BadText" a6) (x7 : ExcT K mg "NotFound" a7) (k10 : PySem.W.kitOne K (.ref a1) (.ref a0) = some true) (k11 : PySem.W.kitOne K (.ref a1) (.ref a1) = some true) (k12 : PySem.W.kitOne K (.ref a1) (.ref a2) = some false) (k13 : PySem.W.kitOne K (.ref a1) (.ref a3) = some false) (k14 : PySem.W.kitOne K (.ref a1) (.ref a4) = some false) (k15 : PySem.W.kitOne K (.ref a1) (.ref a5) = some false) (k16 : PySem.W.kitOne K (.ref a1) (.ref a6) = some false) (k17 : PySem.W.kitOne K (.ref a1) (.ref a7) = some false) (k20 : PySem.W.kitOne K (.ref a2) (.ref a0) = some true) (k21 : PySem.W.kitOne K (.ref a2) (.ref a1) = some false) (k22 : PySem.W.kitOne K (.ref a2) (.ref a2) = some true) (k23 : PySem.W.kitOne K (.ref a2) (.ref a3) = some false) (k24 : PySem.W.kitOne K (.ref a2) (.ref a4) = some false) (k25 : PySem.W.kitOne K (.ref a2) (.ref a5) = some false) (k26 : PySem.W.kitOne K (.ref a2) (.ref a6) = some false) (k27 : PySem.W.kitOne K (.ref a2) (.ref a7) = some false) (k30 : PySem.W.kitOne K (.ref a3) (.ref a0) = some true) (k31 : PySem.W.kitOne K (.ref a3) (.ref a1) = some false) (k32 : PySem.W.kitOne K (.ref a3) (.ref a2) = some false) (k33 : PySem.W.kitOne K (.ref a3) (.ref a3) = some true) (k34 : PySem.W.kitOne K (.ref a3) (.ref a4) = some false) (k35 : PySem.W.kitOne K (.ref a3) (.ref a5) = some false) (k36 : PySem.W.kitOne K (.ref a3) (.ref a6) = some false) (k37 : PySem.W.kitOne K (.ref a3) (.ref a7) = some false) (k40 : PySem.W.kitOne K (.ref a4) (.ref a0) = some true) (k41 : PySem.W.kitOne K (.ref a4) (.ref a1) = some false) (k42 : PySem.W.kitOne K (.ref a4) (.ref a2) = some false) (k43 : PySem.W.kitOne K (.ref a4) (.ref a3) = some false) (k44 : PySem.W.kitOne K (.ref a4) (.ref a4) = some true) (k45 : PySem.W.kitOne K (.ref a4) (.ref a5) = some false) (k46 : PySem.W.kitOne K (.ref a4) (.ref a6) = some false) (k47 : PySem.W.kitOne K (.ref a4) (.ref a7) = some false) (k50 : PySem.W.kitOne K (.ref a5) (.ref a0) = some true) (k51 : PySem.W.kitOne K (.ref a5) (.ref a1) = some false) (k52 : PySem.W.kitOne K (.ref a5) (.ref a2) = some false) (k53 : PySem.W.kitOne K (.ref a5) (.ref a3) = some false) (k54 : PySem.W.kitOne K (.ref a5) (.ref a4) = some false) (k55 : PySem.W.kitOne K (.ref a5) (.ref a5) = some true) (k56 : PySem.W.kitOne K (.ref a5) (.ref a6) = some false) (k57 : PySem.W.kitOne K (.ref a5) (.ref a7) = some false) (k60 : PySem.W.kitOne K (.ref a6) (.ref a0) = some true) (k61 : PySem.W.kitOne K (.ref a6) (.ref a1) = some false) (k62 : PySem.W.kitOne K (.ref a6) (.ref a2) = some false) (k63 : PySem.W.kitOne K (.ref a6) (.ref a3) = some false) (k64 : PySem.W.kitOne K (.ref a6) (.ref a4) = some false) (k65 : PySem.W.kitOne K (.ref a6) (.ref a5) = some false) (k66 : PySem.W.kitOne K (.ref a6) (.ref a6) = some true) (k67 : PySem.W.kitOne K (.ref a6) (.ref a7) = some false) (k70 : PySem.W.kitOne K (.ref a7) (.ref a0) = some true) (k71 : PySem.W.kitOne K (.ref a7) (.ref a1) = some false) (k72 : PySem.W.kitOne K (.ref a7) (.ref a2) = some false) (k73 : PySem.W.kitOne K (.ref a7) (.ref a3) = some false) (k74 : PySem.W.kitOne K (.ref a7) (.ref a4) = some false) (k75 : PySem.W.kitOne K (.ref a7) (.ref a5) = some false) (k76 : PySem.W.kitOne K (.ref a7) (.ref a6) = some false) (k77 : PySem.W.kitOne K (.ref a7) (.ref a7) = some true) (e1 : PySem.W.exmOne K (.ref a1) (.ref a0) = some true) (e2 : PySem.W.exmOne K (.ref a2) (.ref a0) = some true) (e3 : PySem.W.exmOne K (.ref a3) (.ref a0) = some true) (e4 : PySem.W.exmOne K (.ref a4) (.ref a0) = some true) (e5 : PySem.W.exmOne K (.ref a5) (.ref a0) = some true) (e6 : PySem.W.exmOne K (.ref a6) (.ref a0) = some true) (e7 : PySem.W.exmOne K (.ref a7) (.ref a0) = some true) : Nonempty (Errs K mg (clsOf (errA a0 a1 a2 a3 a4 a5 a6 a7) t C)) := by
  refine ⟨{ ad := errA a0 a1 a2 a3 a4 a5 a6 a7, g := fun y hy => ?_, x := fun c hc => ?_, L := fun c hc => clsOf_err hc, k := fun c y hc hy => ?_, e := fun c hc => ?_ }⟩
  · have : y = 0 ∨ y = 1 ∨ y = 2 ∨ y = 3 ∨ y = 4 ∨ y = 5 ∨ y = 6 ∨ y = 7 := by omega
    rcases this with rfl | rfl | rfl | rfl | rfl | rfl | rfl | rfl
    · exact g0
    · exact x1.g
    · exact x2.g
    · exact x3.g
    · exact x4.g
    · exact x5.g
    · exact x6.g
    · exact x7.g
  · rcases okE_cases hc with rfl | rfl | rfl | rfl | rfl | rfl | rfl
    · exact x1
    · exact x2
    · exact x3
    · exact x4
    · exact x5
    · exact x6
    · exact x7
  · have : y = 0 ∨ y = 1 ∨ y = 2 ∨ y = 3 ∨ y = 4 ∨ y = 5 ∨ y = 6 ∨ y = 7 := by omega
    rcases okE_cases hc with rfl | rfl | rfl | rfl | rfl | rfl | rfl
    · rcases this with rfl | rfl | rfl | rfl | rfl | rfl | rfl | rfl
      · exact k10
      · exact k11
      · exact k12
      · exact k13
      · exact k14
      · exact k15
      · exact k16
      · exact k17
    · rcases this with rfl | rfl | rfl | rfl | rfl | rfl | rfl | rfl
      · exact k20
      · exact k21
      · exact k22
      · exact k23
      · exact k24
      · exact k25
      · exact k26
      · exact k27
    · rcases this with rfl | rfl | rfl | rfl | rfl | rfl | rfl | rfl
      · exact k30
      · exact k31
      · exact k32
      · exact k33
      · exact k34
      · exact k35
      · exact k36
      · exact k37
    · rcases this with rfl | rfl | rfl | rfl | rfl | rfl | rfl | rfl
      · exact k40
      · exact k41
      · exact k42
      · exact k43
      · exact k44
      · exact k45
      · exact k46
      · exact k47
    · rcases this with rfl | rfl | rfl | rfl | rfl | rfl | rfl | rfl
      · exact k50
      · exact k51
      · exact k52
      · exact k53
      · exact k54
      · exact k55
      · exact k56
      · exact k57
    · rcases this with rfl | rfl | rfl | rfl | rfl | rfl | rfl | rfl
      · exact k60
      · exact k61
      · exact k62
      · exact k63
      · exact k64
      · exact k65
      · exact k66
      · exact k67
    · rcases this with rfl | rfl | rfl | rfl | rfl | rfl | rfl | rfl
      · exact k70
      · exact k71
      · exact k72
      · exact k73
      · exact k74
      · exact k75
      · exact k76
      · exact k77
  · rcases okE_cases hc with rfl | rfl | rfl | rfl | rfl | rfl | rfl
    · exact e1
    · exact e2
    · exact e3
    · exact e4
    · exact e5
    · exact e6
    · exact e7
end JL
/-! J53: o.m().append("..") where m gives a new list. -/
namespace JL
open PySem PySem.Spec PyProof.Rows L2
/-- a method that gives a new list of the first items of a field's pairs -/
def spNew (cls : Cl) (f : Str) : Sp := fun vs H Q E => ∃ (a dx C q : Addr) (ws : List (Str × V)) (zs : List V) (L : List Addr) (ds rs : List PyData), vs = [.ref a] ∧ cls 101 = .ref C ∧ H a = some (.ins C dx ws) ∧ ws.lookup f = some (.ref q) ∧ H q = some (.lst zs) ∧ Ats (mask H L) zs ds ∧ pickP 0 ds = some rs ∧ ds.length < 1000 ∧
  ∀ D Hc acc, H D = none → Same H Hc → Hc D = some (.lst acc) → acc.length < 1000 → Q (.ref D) Hc
section
variable {P : Program} {w : World} {K : PySem.W.Frag} {mg : Str → Option Value} {base : Heap}
theorem fn_new {x qual f self : Str} {st : Stmt} {fa C : Addr} {fd : FuncData} {Nn : List Str} {k i j kk : Nat} {cls : Cl} {tgs : List Expr} {elt : Expr} {pt pf px pos pr : Pos} {scope : Scope} {own : List (Str × Nat)} (I : InsC K cls C) (hn : NoAttr K C f) (F : Fun K x qual st fa fd) (S : FnScope Nn [self] (defScope st))
    (hb : defBody st = [.Return (some (.ListComp elt [⟨.Tuple tgs kk pt, .Attribute (.Name self px) f pf, [], 0⟩] scope pos)) pr])
    (hbody : ∀ (cdv : Value) (A : Around) (outer : List Env) (s : Shared) (H : Hp) (E : XK), Room k (A.deeper (envOfC qual (defScope st) s.heap.objs.size fa cdv)) →
      PSs (cxOf (L2.CX P w) P w K mg base Nn qual (defScope st) fa cdv A outer s H E) [.Return (some (.ListComp elt [⟨.Tuple tgs kk pt, .Attribute (.Name self px) f pf, [], 0⟩] scope pos)) pr]
        (fun D σ H => tLc (iSeq K (tFld K (tVar 0) f)) (gTup K 2 (gAll [i, j])) tYes (tVar i) (own.map (·.2)) σ H D.rt))
    (hi : i < Nn.length) (hj : j < Nn.length) (hij : i ≠ j) (hiv : i ∈ own.map (·.2)) (hjv : j ∈ own.map (·.2)) : FnOk P w K mg base (L2.CX P w) (k + 1) fa fd [self] (spNew cls f) := by
  refine F.okX S (fun vs H Q E h => ?_) fun cdv A outer s H vs Q E hr h => ?_
  · obtain ⟨a, dx, C', q, ws, zs, L, ds, rs, rfl, _⟩ := h
    rfl
  · obtain ⟨a, dx, C', q, ws, zs, L, ds, rs, rfl, hc, ha, hl, hq, hz, hp, hd, fin⟩ := h
    have := I.eq hc
    subst this
    rw [hb]
    refine ⟨_, hbody cdv A outer s H E hr, ?_⟩
    have hlen : (L2.start Nn [V.ref a]).length = Nn.length := by
      have h1 := congrArg List.length S.pre
      rw [List.length_take] at h1
      simp only [List.length_cons, List.length_nil] at h1
      unfold L2.start
      rw [List.length_append, List.length_map, List.length_replicate]
      simp only [List.length_cons, List.length_nil]
      omega
    refine ⟨.ref a, rfl, a, C', dx, ws, .ref q, rfl, ha, I.c, hn, hl, .inl ⟨q, rfl, ⟨zs, SqL.of hq⟩, fun D nD => ?_⟩⟩
    have hm : (1000 : Nat) ≤ maxLen := by decide
    exact lc_pairs (L := L) (rs := rs) (p := 0) (by rw [hlen]; exact hi) (by rw [hlen]; exact hj) hij (.inl rfl) hiv hjv (by omega) nD hq hz hp fun Hc acc sm hD hall => fin D Hc acc nD sm hD (by rw [hall.length, pickP_len hp]; exact hd)
end
section
variable {X : Cx} {N : Ent} {W : WX} {i k : Nat} {x m f : Str} {px apos bpos cpos mpos ps : Pos} {cls : Cl} {C fa : Addr} {fd : FuncData} {ps' : List Str} {txt : String} {jj : Nat}
@[simp] def mNewApp (i : Nat) (m f : Str) (st : ST) : R RV := match insOf i st with
  | some (_, fs) => (match fs.lookup m, fs.lookup f with
    | none, some (.own ds) => (match pickP 0 ds with
      | some _ => if ds.length < 1000 then .ok (.dat .none) st else .stuck
      | none => .stuck)
    | _, _ => .stuck)
  | none => .stuck
theorem je_newApp {pl : Sem Bool} (I : InsC X.K cls C) (hcl : N.cls = cls) (hm : Meth X.K C m fa) (G : FnOk X.prog X.w X.K X.mg X.base (L2.CX X.prog X.w) k fa fd ps' (spNew cls f)) (hr : Room k X.A) (hb : Binds X.K fd ps' []) (tk : Takes X W)
    (hN : X.N[i]? = some x := by rfl) (hv : Vis X.env.scope x := by first | exact Or.inl rfl | exact Or.inr (Or.inl rfl) | exact Or.inr (Or.inr rfl)) (hd : (x == ("__debug__" : Str)) = false := by decide) (hcd : (x == ("__classdict__" : Str)) = false := by decide)
    (ht : eval (.Call (.Attribute (.Name x px) m apos) [] [] mpos) X.env = (do
      let ov ← eval (.Name x px) X.env
      standAt apos.atName
      let (f, first) ← holding [ov] (getMethod ov m pl)
      callWith mpos f first (backTo mpos (starEach [] X.env)) (backToKw mpos (keywordEach [] X.env))) := by rfl)
    (hbase : attributeBase (.Call (.Attribute (.Name x px) m apos) [] [] mpos) "append" X.env (eval (.Call (.Attribute (.Name x px) m apos) [] [] mpos) X.env) = eval (.Call (.Attribute (.Name x px) m apos) [] [] mpos) X.env := by rfl)
    (hfew : ((backTo cpos (starEach [.Constant (.str txt) jj ps] X.env)).all (fun x => !x.1) && (backToKw cpos (keywordEach [] X.env)).all (fun x => x.1.isSome) && decide ([Expr.Constant (.str txt) jj ps].length + ([] : List Keyword).length + (if ([] : List Keyword).isEmpty then 0 else 1) < 30)) = true := by rfl)
    (hline : (bpos.endLine == cpos.line) = true := by rfl) (hs : starEach [.Constant (.str txt) jj ps] X.env = (false, eval (.Constant (.str txt) jj ps) X.env) :: starEach [] X.env := by rfl) (hpl : (backTo cpos (starEach [] X.env)).any (·.1) = false := by rfl) :
    JE X N W (.Call (.Attribute (.Call (.Attribute (.Name x px) m apos) [] [] mpos) "append" bpos) [.Constant (.str txt) jj ps] [] cpos) (mNewApp i m f) := by
  subst hcl
  refine PE.weak (pe_bm PySem.F.plainAttrs_list PySem.F.slot_list_append PySem.F.type_list_append mt_append (pe_methX0 (E := WE W) (pe_var hN hv hd hcd) I.c hm G hr hb (fun σ => passAt tk σ) ht) (pa_cons pe_str pa_nil hs) hbase hfew hline hs hpl) fun σ H Q ⟨L, as1, st, rel, h⟩ => ?_
  unfold mNewApp at h
  split at h
  · rename_i j fs ei
    obtain ⟨g1, g2⟩ := insOf_iff ei
    obtain ⟨p, dx, C', ws, qs, hsl, ia⟩ := rel.ins g1 g2
    have := I.eq ia.c
    subst this
    split at h
    · rename_i ds l1 l2
      obtain ⟨q, vs, w1, w2, w3, w4⟩ := ia.al.getO l2
      split at h
      · rename_i rs ep
        split at h
        · rename_i hl
          refine ⟨.ref p, hsl, p, dx, ws, rfl, ia.h, ia.al.none l1, p, dx, C', q, ws, vs, L, ds, rs, rfl, ia.c, ia.h, w1, w3, w4, ep, hl, fun D Hc acc nD sm hD ha => ?_⟩
          refine ⟨.inl ⟨rfl, _, SqL.of hD⟩, D, acc, .str txt, rfl, rfl, hD, ?_, ?_⟩
          · have hm : (1000 : Nat) ≤ sizeLine := by decide
            omega
          · have s2 : Same H (upd Hc D (.lst (acc ++ [.str txt]))) := fun b o hb => by
              rw [upd_ne (ne_of_none hb nD)]
              exact sm _ _ hb
            exact h L as1 _ _ (rel.grow s2) .non (Ext.grow s2)
        · exact h.elim
      · exact h.elim
    · exact h.elim
  · exact h.elim
end
end JL
/-! J54: f(); [a, b] * k. -/
namespace JL
open PySem PySem.Spec PyProof.Rows L2
section
variable {X : Cx} {N : Ent} {W : WX} {pos : Pos}
theorem je_call0 {cls : Cl} {k : Nat} {f : Addr} {fd : FuncData} {ps : List Str} {x : Str} {p : Pos} {F : FS} (G : FnOk X.prog X.w X.K X.mg X.base (L2.CX X.prog X.w) k f fd ps (spF cls 0 F)) (hcls : N.cls = cls) (hr : Room k X.A) (hm : X.mg x = some (.ref f)) (hk : PySem.W.keepIn X.K (.ref f) = true)
    (hb : Binds X.K fd ps []) (tk : Takes X W) (hg : Gl X x := by rfl) (hdb : (x == ("__debug__" : Str)) = false := by decide) : JE X N W (.Call (.Name x p) [] [] pos) (mFn 0 F mNil) := by
  subst hcls
  have main : PE X (.Call (.Name x p) [] [] pos) (tCallS (spF N.cls 0 F) (WE W) tNil) := by
    refine ⟨fun pins s σ H Q I h => ?_⟩
    refine wpAny_Call_Name_kw (ld_glob I hg hm ?_ hdb)
    exact PySem.W.callWith_K0 I.kIn hk (run_fnS (E := WE W) (us := []) G hr hb (passAt tk σ) I .nil h)
  refine PE.weak main fun σ H Q ⟨L, as1, st, rel, h⟩ => ?_
  have h : Fin N W VRel L as1 σ H ((F [] st.gs).inn st) Q := h
  refine ⟨rfl, as1, L, [], st.gs, ⟨rel.live, rel.nt⟩, .nil, rel.g, ?_⟩
  cases e2 : F [] st.gs with
  | stuck => rw [e2] at h; exact h.elim
  | ok r gs' =>
    rw [e2] at h
    intro v H' L' as' sp g' vr
    obtain ⟨r5, x5⟩ := rel.after sp g'
    exact h L' as' v H' r5 vr.back x5
  | exc c gs' =>
    rw [e2] at h
    intro H' L' as' sp g'
    obtain ⟨r5, x5⟩ := rel.after sp g'
    exact h L' as' H' r5 x5
end
theorem ats_reps {H : Hp} {vs : List V} {ds : List PyData} (h : Ats H vs ds) : ∀ n : Nat, Ats H (List.replicate n vs).flatten (List.replicate n ds).flatten
  | 0 => .nil
  | n + 1 => by
    rw [List.replicate_succ, List.replicate_succ, List.flatten_cons, List.flatten_cons]
    exact h.append (ats_reps h n)
def repND : PyData → PyData → Option PyData
  | .list ds, .int k => if 0 ≤ k ∧ k ≤ 1000 ∧ ds.length ≤ 100 then some (.list (List.replicate k.toNat ds).flatten) else none
  | _, _ => none
theorem pure_repN : Pure2 rRep repND := by
  intro x y H L Q d e g live hx hy he k
  unfold repND at he
  split at he
  · rename_i ds k0
    split at he
    · rename_i hk
      cases he
      obtain ⟨a, vs, rfl, ha, hs⟩ := hx.list
      have hy' := hy.int
      subst hy'
      refine ⟨a, k0, vs, rfl, rfl, ha, by omega, by omega, ?_, fun p np => k _ _ (same_new np) (at_new live np (ats_reps hs _))⟩
      have h1 : k0.toNat ≤ 1000 := by omega
      have h2 : vs.length ≤ 100 := by rw [hs.length]; exact hk.2.2
      have h3 : vs.length * k0.toNat ≤ 100 * 1000 := Nat.mul_le_mul h2 h1
      exact Nat.le_trans h3 (by decide)
    · cases he
  · cases he
end JL
/-! J55: a def that is called wherever, within an except suite too (it raises nothing itself). -/
namespace JL
open PySem PySem.Spec PyProof.Rows L2 L2H
theorem RoomH.un64 {k : Nat} {A : Around} (r : RoomH k A) : A.units + 64 < cLine := by have := r.un; omega
theorem RoomH.un65 {k : Nat} {A : Around} (r : RoomH k A) : A.units + 65 < cLine := by have := r.un; omega
/-- as FnOk, whatever is handled -/
structure FnA (P : Program) (w : World) (K : PySem.W.Frag) (mg : Str → Option Value) (base : Heap) (C : CXT) (k : Nat) (f : Addr) (fd : FuncData) (ps : List Str) (sp : Sp) : Prop where
  few : ∀ vs H Q E, sp vs H Q E → vs.length = ps.length
  go : ∀ (A : Around) (outer : List Env) (s : Shared) (H : Hp) (args : Args) (us : List Value) (vs : List V) (Q : VK) (E : XK), RoomH k A → Env0 P w K mg base A outer s H → BindsTo s fd args (ps.zip us) → Vals vs us → sp vs H Q E → codeAny (model P w) A (.call (.ref f) args) (CR C outer P w H s Q E) s
def cxA (C : CXT) (P : Program) (w : World) (K : PySem.W.Frag) (mg : Str → Option Value) (base : Heap) (Nn : List Str) (qual : Str) (sc : Scope) (f : Addr) (cd : Value) (A : Around) (outer : List Env) (s : Shared) (H : Hp) (E : XK) : Cx := { cxOf C P w K mg base Nn qual sc f cd A outer s H E with calm := false }
section
variable {C : CXT} {P : Program} {w : World} {K : PySem.W.Frag} {mg : Str → Option Value} {base : Heap} {Nn ps : List Str} {qual : Str} {sc : Scope} {f : Addr} {cd : Value} {A : Around} {outer : List Env} {s s1 : Shared} {H : Hp} {E : XK} {us : List Value} {vs : List V}
theorem inv_beginA (S : FnScope Nn ps sc) (e0 : Env0 P w K mg base A outer s H) (hl : vs.length = ps.length) (r : Vals vs us) (x : InCallC s s.heap.objs.size (bindL (envOfC qual sc s.heap.objs.size f cd).kindOf (ps.zip us) fun _ => none) (cellsFrom (s.heap.objs.size + 1) sc.names []) (bindC (envOfC qual sc s.heap.objs.size f cd).kindOf (ps.zip us) fun _ => none) s1) :
    Inv (cxA C P w K mg base Nn qual sc f cd A outer s H E) [] (L2.start Nn vs) H s1 := by
  have e1 : Env0 P w K mg base { A with handled := none } outer s H := ⟨e0.frames, e0.mod, e0.bs, e0.bsz, e0.funs, e0.frf, e0.hok, e0.bare⟩
  have I := inv_start (CX := C) (E := E) S rfl e1 hl r x
  have o := I.ok
  exact ⟨⟨o.mod, o.kind, o.glob, o.blt, o.above, o.inj, o.has, o.cab, (fun z => Bool.noConfusion z), Around.frames_deeper e0.frames, o.stk, o.exf, o.bs, o.bsz, o.noex, o.exfs, o.funs, o.frf⟩, I.os, I.bare, I.base, I.loc, I.cell, I.free, I.freeC, I.pin, I.hok, I.len⟩
theorem fn_anyA {name : Str} {st : Stmt} {fd : FuncData} {k : Nat} {sp : Sp} (F : Fun K name qual st f fd) (S : FnScope Nn ps (defScope st)) (few : ∀ vs H Q E, sp vs H Q E → vs.length = ps.length)
    (hb : ∀ (cdv : Value) (A : Around) (outer : List Env) (s : Shared) (H : Hp) (vs : List V) (Q : VK) (E : XK), RoomH k (A.deeper (envOfC qual (defScope st) s.heap.objs.size f cdv)) → sp vs H Q E →
      ∃ t, PSs (cxA C P w K mg base Nn qual (defScope st) f cdv A outer s H E) (defBody st) t ∧ t { nx := fun _ H' => Q .non H', rt := Q } (L2.start Nn vs) H) : FnA P w K mg base C (k + 1) f fd ps sp := by
  obtain ⟨oc, od, kV, doc, pm, an, cdv, ct, osl, rfl, lk, hcd⟩ := F.ex
  refine ⟨few, ?_⟩
  intro A outer s H args us vs Q E room e0 bt r hsp
  have up : ∀ b o, base.get? b = some o → s.heap.get? b = some o := fun b o e => (e0.bs b o e).1
  have kin : K.In s.heap := e0.mod.kin.keeps up
  have nl : s.heap.NoLimit := e0.mod.nolimit.keeps up
  have kinds : ∀ y ∈ ps.zip us, (defScope st).names.lookup y.1 = some .local ∨ ((defScope st).names.lookup y.1 = some .cell ∧ ((cellsFrom (s.heap.objs.size + 1) (defScope st).names []).lookup y.1).isSome = true) := by
    rintro ⟨n, v⟩ hy
    cases S.par n (List.of_mem_zip hy).1 with
    | inl q => exact Or.inl q
    | inr q => exact Or.inr ⟨q, PySem.W.cellsFrom_some _ _ _ (Or.inl q)⟩
  apply codeAny_call_function room.depth (kin _ _ lk) rfl S.co S.gen rfl (PySem.W.codeRec_of kin hcd)
  apply bt
  apply wpAny_newFunctionEnv_cells S.kind kinds
  intro env he s1 x
  subst he
  obtain ⟨t, ht, hq⟩ := hb cdv A outer s H vs Q E (room.deeper _) hsp
  refine ⟨nl.keeps x.toInCall.keep, codeAny_func (wpAny_mono (ht.run [] s1 (L2.start Nn vs) H _ (inv_beginA S e0 (few _ _ _ _ hsp) r x) hq) ?_ ?_)⟩
  · intro fl s' hs
    cases fl with
    | next => obtain ⟨_, H', J, q⟩ := hs; exact ⟨V.non, H', J.os, J.bare, J.base, J.hok, rfl, q⟩
    | ret u => obtain ⟨v, _, H', J, rv, q⟩ := hs; exact ⟨v, H', J.os, J.bare, J.base, J.hok, rv, q⟩
    | brk => obtain ⟨_, _, _, q⟩ := hs; exact q.elim
    | cont => obtain ⟨_, _, _, q⟩ := hs; exact q.elim
  · exact fun _ _ hs => hs
theorem fn_endA {st : Stmt} {mb : M Flw} {cls : Cl} {cdv : Value} {Q : VK}
    (hbody : ∀ (as0 : List (List Addr)) (L0 : List Addr), JSs (cxA (L2.CX P w) P w K mg base Nn qual (defScope st) f cdv A outer s H E) ⟨as0, L0, H, cls⟩ (fun c d _ H' => E c d H') (defBody st) mb) (h : spF cls ps.length (runF Nn.length mb) vs H Q E) :
    ∃ t, PSs (cxA (L2.CX P w) P w K mg base Nn qual (defScope st) f cdv A outer s H E) (defBody st) t ∧ t { nx := fun _ H' => Q .non H', rt := Q } (L2.start Nn vs) H := by
  obtain ⟨hl, as0, L0, args, gs, live, hv, g, h⟩ := h
  refine ⟨_, hbody as0 L0, L0, as0, _, rel_start live.1 live.2 hv g, ?_⟩
  unfold runF at h
  have gl : gs.length = as0.length := g.glen.symm
  cases e : mb ⟨args.map RV.sv ++ List.replicate (Nn.length - args.length) .un, gs⟩ with
  | stuck => rw [e] at h; exact h
  | exc c st' =>
    rw [e] at h
    intro L' as1' σ' H' r _
    refine h H' L' _ r.stp ?_
    rw [gl]
    exact r.g.take _
  | ok fl st' =>
    rw [e] at h
    cases fl with
    | brk => exact h.elim
    | cnt => exact h.elim
    | nx =>
      intro L' as1' σ' H' r _
      refine h .non H' L' _ r.stp ?_ .non
      rw [gl]
      exact r.g.take _
    | ret rv =>
      intro L' as1' σ' v H' r hvr _
      dsimp only [endF] at h
      cases rv with
      | dat d =>
        refine h v H' L' _ r.stp ?_ hvr
        rw [gl]
        exact r.g.take _
      | hdl j =>
        dsimp only [retF] at h
        by_cases hj : j < gs.length
        · rw [if_pos hj] at h
          refine h v H' L' _ r.stp ?_ ?_
          · rw [gl]
            exact r.g.take _
          · obtain ⟨p, fp, q1, q2⟩ := hvr
            refine ⟨p, fp, ?_, q2⟩
            rw [List.getElem?_take_of_lt (by show j < as0.length; omega)]
            exact q1
        · rw [if_neg hj] at h
          exact h.elim
      | bor i =>
        dsimp only [retF] at h
        cases z : st'.look (.bor i) with
        | none => rw [z] at h; exact h.elim
        | some d =>
          rw [z] at h
          obtain ⟨rv4, st4, z2⟩ : ∃ st4, ∃ _ : Unit, st'.esc (.bor i) = some (.dat d, st4) := by
            simp only [ST.look] at z
            simp only [ST.esc]
            split at z
            · rename_i ds q
              cases z
              exact ⟨_, (), rfl⟩
            · rename_i d' q
              cases z
              exact ⟨_, (), rfl⟩
            · cases z
          obtain ⟨L4, r4, x4, v4, n4⟩ := r.esc hvr z2
          refine h v H' L4 _ r4.stp ?_ v4
          rw [gl]
          have eg : rv4.gs = st'.gs := by
            simp only [ST.esc] at z2
            split at z2
            · cases z2; rfl
            · cases z2; rfl
            · cases z2
          rw [← eg]
          exact r4.g.take _
theorem fn_okA {x : Str} {st : Stmt} {fd : FuncData} {k : Nat} {mb : M Flw} (cls : Cl) (F : Fun K x qual st f fd) (S : FnScope Nn ps (defScope st))
    (hbody : ∀ (cdv : Value) (A : Around) (outer : List Env) (s : Shared) (H : Hp) (E : XK), RoomH k (A.deeper (envOfC qual (defScope st) s.heap.objs.size f cdv)) → ∀ (as0 : List (List Addr)) (L0 : List Addr),
      JSs (cxA (L2.CX P w) P w K mg base Nn qual (defScope st) f cdv A outer s H E) ⟨as0, L0, H, cls⟩ (fun c d _ H' => E c d H') (defBody st) mb) : FnA P w K mg base (L2.CX P w) (k + 1) f fd ps (spF cls ps.length (runF Nn.length mb)) :=
  fn_anyA F S (fun vs H Q E h => h.1) fun cdv A outer s H vs Q E room h => fn_endA (hbody cdv A outer s H E room) h
end
section
variable {X : Cx} {N : Ent} {W : WX} {e : Expr} {es : List Expr} {mr : M (List RV)} {pos : Pos}
theorem je_callA {cls : Cl} {k n : Nat} {f : Addr} {fd : FuncData} {ps : List Str} {x : Str} {p : Pos} {F : FS} (G : FnA X.prog X.w X.K X.mg X.base (L2.CX X.prog X.w) k f fd ps (spF cls n F)) (hcls : N.cls = cls) (hr : RoomH k X.A) (hm : X.mg x = some (.ref f)) (hk : PySem.W.keepIn X.K (.ref f) = true)
    (hb : Binds X.K fd ps []) (tk : Takes X W) (ha : JA X N W (e :: es) mr) (hg : Gl X x := by rfl) (hdb : (x == ("__debug__" : Str)) = false := by decide)
    (he : starEach (e :: es) X.env = (false, eval e X.env) :: starEach es X.env := by rfl) (hpl : (backTo pos (starEach es X.env)).any (·.1) = false := by rfl) : JE X N W (.Call (.Name x p) (e :: es) [] pos) (mFn n F mr) := by
  subst hcls
  have main : PE X (.Call (.Name x p) (e :: es) [] pos) (tCallS (spF N.cls n F) (WE W) (semA N W mr)) := by
    refine ⟨fun pins s σ H Q I h => ?_⟩
    refine wpAny_Call_Name_kw (ld_glob I hg hm ?_ hdb)
    refine PySem.W.callWith_K (h₀ := X.base) I.ok.mod.kin hk (thn (PA.run ha pos pins s σ H _ I h) fun us s1 ⟨vs, H1, I1, r, q⟩ => ⟨I1.kIn, ?_⟩) he hpl
    have hl : us.length = ps.length := by rw [← r.length]; exact G.few _ _ _ _ q
    have bt := hb s1 us I1.kIn (by rw [List.append_nil]; exact hl)
    rw [List.append_nil] at bt
    refine wpAny_call (codeAny_mono (G.go X.A X.stack s1 H1 ⟨us, []⟩ us vs Q (WE W σ) hr I1.env0 bt r q) fun r s' hq => ?_)
    cases r with
    | error e => exact passAt tk σ pins H1 s1 e s' I1 hq
    | ok fl =>
      cases fl with
      | ret u => exact I1.after hq
      | next => exact False.elim hq
      | brk => exact False.elim hq
      | cont => exact False.elim hq
  refine PE.weak main fun σ H Q ⟨L, as1, st, rel, h⟩ => ?_
  refine sem_mono (fin_bind (P1 := VRels) rel h) fun vs H1 ⟨L3, as3, s3, rv3, r3, v3, x3, f3⟩ => ?_
  cases e1 : escAll rv3 s3 with
  | none => rw [e1] at f3; exact f3.elim
  | some pq =>
    obtain ⟨q, s4⟩ := pq
    rw [e1] at f3
    dsimp only at f3
    by_cases hl : q.length = n
    · rw [if_pos hl] at f3
      obtain ⟨L4, r4, x4, v4, n4⟩ := Rel.escAll r3 v3 e1
      have f4 := Fin.from f3 x4
      refine ⟨by rw [v4.length]; exact hl, as3, L4, q, s4.gs, ⟨r4.live, r4.nt⟩, v4.bare n4, r4.g, ?_⟩
      cases e2 : F q s4.gs with
      | stuck => rw [e2] at f4; exact f4.elim
      | ok r gs' =>
        rw [e2] at f4
        intro v H' L' as' sp g' vr
        obtain ⟨r5, x5⟩ := r4.after sp g'
        exact f4 L' as' v H' r5 vr.back x5
      | exc c gs' =>
        rw [e2] at f4
        intro H' L' as' sp g'
        obtain ⟨r5, x5⟩ := r4.after sp g'
        exact f4 L' as' H' r5 x5
    · rw [if_neg hl] at f3
      exact f3.elim
end
end JL
/-! J56: dicts whose keys are nested tuples: the facts. -/
namespace JL
open PySem PySem.Spec PyProof.Rows L2
mutual
def ntK : NestedKey → Bool
  | .none => true
  | .num _ => true
  | .text _ => false
  | .tup ks => ntKs ks
def ntKs : List NestedKey → Bool
  | [] => true
  | k :: ks => ntK k && ntKs ks
end
mutual
theorem hash_nt (w w' : World) : ∀ k : NestedKey, ntK k = true → k.hash w = k.hash w'
  | .none, _ => by simp [NestedKey.hash]
  | .num i, _ => by simp [NestedKey.hash]
  | .text x, h => by simp [ntK] at h
  | .tup ks, h => by
    simp only [ntK] at h
    simp only [NestedKey.hash]
    rw [hashes_nt w w' ks h]
theorem hashes_nt (w w' : World) : ∀ ks : List NestedKey, ntKs ks = true → NestedKey.hashes w ks = NestedKey.hashes w' ks
  | [], _ => rfl
  | k :: ks, h => by
    simp only [ntKs, Bool.and_eq_true] at h
    simp only [NestedKey.hashes]
    rw [hash_nt w w' k h.1, hashes_nt w w' ks h.2]
end
mutual
theorem keyN_nt : ∀ (d : PyData) (k : NestedKey), keyN d = some k → ntK k = true
  | .none, _, e => by simp only [keyN] at e; cases e; rfl
  | .int i, _, e => by simp only [keyN] at e; cases e; rfl
  | .bool _, _, e => by simp only [keyN] at e; cases e
  | .str _, _, e => by simp only [keyN] at e; cases e
  | .list _, _, e => by simp only [keyN] at e; cases e
  | .dict _, _, e => by simp only [keyN] at e; cases e
  | .tuple ds, _, e => by
    simp only [keyN] at e
    cases q : keysN ds with
    | none => rw [q] at e; cases e
    | some ks =>
      rw [q] at e
      simp only [Option.bind_some] at e
      cases e
      simp only [ntK]
      exact keysN_nt ds ks q
theorem keysN_nt : ∀ (ds : List PyData) (ks : List NestedKey), keysN ds = some ks → ntKs ks = true
  | [], _, e => by simp only [keysN] at e; cases e; rfl
  | d :: r, _, e => by
    simp only [keysN] at e
    cases q : keyN d with
    | none => rw [q] at e; cases e
    | some k =>
      rw [q] at e
      simp only [Option.bind_some] at e
      cases q2 : keysN r with
      | none => rw [q2] at e; cases e
      | some ks =>
        rw [q2] at e
        simp only [Option.bind_some] at e
        cases e
        simp only [ntKs, Bool.and_eq_true]
        exact ⟨keyN_nt d k q, keysN_nt r ks q2⟩
end
section
variable {X : Cx} {pins : List (Addr × Obj)} {s : Shared} {σ : L2.St} {H F : Hp}
mutual
theorem nested_of (I : Inv X pins σ H s) (sm : Same F H) : ∀ {v : V} {d : PyData} {k : NestedKey} {u : Value}, At F v d → keyN d = some k → RelV v u → NestedIs s.heap k u
  | _, _, k, u, .non, e, r => by
    simp only [keyN] at e
    cases e
    have : u = Value.none := r
    subst this
    exact .none
  | _, _, k, u, .bl b, e, r => by simp only [keyN] at e; cases e
  | _, _, k, u, .int i, e, r => by
    simp only [keyN] at e
    cases e
    obtain ⟨t, rfl⟩ := (show ∃ t, u = Value.int i t from r)
    exact .int i t
  | _, _, k, u, .str x, e, r => by simp only [keyN] at e; cases e
  | _, _, k, u, .lst _ _, e, r => by simp only [keyN] at e; cases e
  | _, .tuple ds, k, u, .tup (a := a) (vs := vs) ha hs, e, r => by
    simp only [keyN] at e
    cases q : keysN ds with
    | none => rw [q] at e; cases e
    | some ks =>
      rw [q] at e
      simp only [Option.bind_some] at e
      cases e
      have : u = Value.ref a := r
      subst this
      obtain ⟨its, rv, ⟨o, ho, hc, n, hd⟩, _⟩ := I.tuple (SqT.of (sm _ _ ha))
      exact .tup ho hc hd (by simpa using nesteds_of I sm hs q rv)
theorem nesteds_of (I : Inv X pins σ H s) (sm : Same F H) : ∀ {vs : List V} {ds : List PyData} {ks : List NestedKey} {us : List Value}, Ats F vs ds → keysN ds = some ks → Vals vs us → NestedAll s.heap ks us
  | _, _, ks, us, .nil, e, r => by
    simp only [keysN] at e
    cases e
    cases r
    exact .nil
  | _, _, ks, us, .cons (d := d) (ds := ds) h t, e, r => by
    simp only [keysN] at e
    cases q : keyN d with
    | none => rw [q] at e; cases e
    | some k =>
      rw [q] at e
      simp only [Option.bind_some] at e
      cases q2 : keysN ds with
      | none => rw [q2] at e; cases e
      | some ks' =>
        rw [q2] at e
        simp only [Option.bind_some] at e
        cases e
        cases r with
        | cons r1 r2 => exact .cons (nested_of I sm h q r1) (nesteds_of I sm t q2 r2)
end
theorem NAll.is (I : Inv X pins σ H s) (sm : Same F H) : ∀ {xs : List (NestedKey × Addr × Value)} {kvs : List (NestedKey × PyData)}, NAll F xs kvs → ∀ x ∈ xs, (nestedKind X.prog X.w).is s.heap x.1 x.2.1 ∧ ntK x.1 = true
  | _, _, .nil, x, h => absurd h (by simp)
  | _, _, .cons h1 h0 h2 h3 h4 r, x, h => by
    rcases List.mem_cons.mp h with rfl | h
    · exact ⟨⟨nested_of I sm h2 h1 rfl, h0⟩, keyN_nt _ _ h1⟩
    · exact NAll.is I sm r x h
theorem dn_of (I : Inv X pins σ H s) (sm : Same F H) {a : Addr} {xs : List (NestedKey × Addr × Value)} {kvs : List (NestedKey × PyData)} (ha : H a = some (dnO a xs)) (hN : NAll F xs kvs) : s.heap.DictOfH (nestedKind X.prog X.w) a xs ∧ (a == sysModules) = false := by
  obtain ⟨⟨w, o, es, ep, h1, h2, h3, h4, h5, h6⟩, _, _⟩ := I.hok a _ ha
  refine ⟨⟨o, es, ep, h1, h2, h3, ?_, fun x hx => (NAll.is I sm hN x hx).1, h5⟩, h6⟩
  rw [h4]
  refine List.map_congr_left fun x hx => ?_
  show (⟨x.1.hash w, _, _⟩ : DictEntry) = ⟨x.1.hash X.w, _, _⟩
  rw [hash_nt w X.w x.1 (NAll.is I sm hN x hx).2]
theorem NAll.len : ∀ {xs : List (NestedKey × Addr × Value)} {kvs : List (NestedKey × PyData)}, NAll F xs kvs → xs.length = kvs.length
  | _, _, .nil => rfl
  | _, _, .cons _ _ _ _ _ r => by rw [List.length_cons, List.length_cons, NAll.len r]
theorem at_pos {k q : NestedKey} {p : Addr × Value} {xs : List (NestedKey × Addr × Value)} (h : q = k) : atKey ((q, p) :: xs) k = some p := by simp [atKey, List.find?_cons, h]
theorem at_neg {k q : NestedKey} {p : Addr × Value} {xs : List (NestedKey × Addr × Value)} (h : ¬ q = k) : atKey ((q, p) :: xs) k = atKey xs k := by simp [atKey, List.find?_cons, h]
theorem vd_pos {k q : NestedKey} {d : PyData} {kvs : List (NestedKey × PyData)} (h : q = k) : valD ((q, d) :: kvs) k = some d := by simp [valD, List.find?_cons, h]
theorem vd_neg {k q : NestedKey} {d : PyData} {kvs : List (NestedKey × PyData)} (h : ¬ q = k) : valD ((q, d) :: kvs) k = valD kvs k := by simp [valD, List.find?_cons, h]
theorem NAll.isS {k : NestedKey} : ∀ {xs : List (NestedKey × Addr × Value)} {kvs : List (NestedKey × PyData)}, NAll F xs kvs → (atKey xs k).isSome = (valD kvs k).isSome
  | _, _, .nil => rfl
  | _, _, .cons (k := q) _ _ _ _ _ r => by
    by_cases z : q = k
    · rw [at_pos z, vd_pos z]; rfl
    · rw [at_neg z, vd_neg z]; exact NAll.isS r
theorem NAll.get {k : NestedKey} {d : PyData} : ∀ {xs : List (NestedKey × Addr × Value)} {kvs : List (NestedKey × PyData)}, NAll F xs kvs → valD kvs k = some d → ∃ b u v, atKey xs k = some (b, u) ∧ RelV v u ∧ At F v d
  | _, _, .nil, e => by cases e
  | _, _, .cons (k := q) (a := b) (u := u) (v := v) _ _ _ h3 h4 r, e => by
    by_cases z : q = k
    · rw [vd_pos z] at e
      cases e
      exact ⟨b, u, v, at_pos z, h3, h4⟩
    · rw [vd_neg z] at e
      rw [at_neg z]
      exact NAll.get r e
theorem NAll.repl {k : NestedKey} {u : Value} {v : V} {d : PyData} (hr : RelV v u) (hv : At F v d) : ∀ {xs : List (NestedKey × Addr × Value)} {kvs : List (NestedKey × PyData)}, NAll F xs kvs → NAll F (xs.map (putAt k u)) (kvs.map fun kv => if kv.1 = k then (kv.1, d) else kv)
  | _, _, .nil => .nil
  | _, _, .cons (k := q) h1 h0 h2 h3 h4 r => by
    rw [List.map_cons, List.map_cons]
    by_cases z : q = k
    · simp only [putAt, z, if_true]
      rw [z] at h1 h0
      exact .cons h1 h0 h2 hr hv (NAll.repl hr hv r)
    · simp only [putAt, z, if_false]
      exact .cons h1 h0 h2 h3 h4 (NAll.repl hr hv r)
theorem NAll.snoc {k : NestedKey} {b : Addr} {u : Value} {v : V} {dk d : PyData} (hk : keyN dk = some k) (h0 : k.depth ≤ 8) (hb : At F (.ref b) dk) (hr : RelV v u) (hv : At F v d) : ∀ {xs : List (NestedKey × Addr × Value)} {kvs : List (NestedKey × PyData)}, NAll F xs kvs → NAll F (xs ++ [(k, b, u)]) (kvs ++ [(k, d)])
  | _, _, .nil => .cons hk h0 hb hr hv .nil
  | _, _, .cons a1 a0 a2 a3 a4 r => .cons a1 a0 a2 a3 a4 (NAll.snoc hk h0 hb hr hv r)
theorem any_val {k : NestedKey} : ∀ kvs : List (NestedKey × PyData), (kvs.any fun kv => decide (kv.1 = k)) = (valD kvs k).isSome
  | [] => rfl
  | (q, d) :: r => by
    by_cases z : q = k
    · rw [vd_pos z]; simp [z]
    · rw [vd_neg z, List.any_cons, any_val r]; simp [z]
theorem NAll.put {k : NestedKey} {b : Addr} {u : Value} {v : V} {dk d : PyData} (hk : keyN dk = some k) (h0 : k.depth ≤ 8) (hb : At F (.ref b) dk) (hr : RelV v u) (hv : At F v d) {xs : List (NestedKey × Addr × Value)} {kvs : List (NestedKey × PyData)} (h : NAll F xs kvs) : NAll F (storedH xs k b u) (putKD kvs k d) := by
  unfold storedH putKD
  rw [any_val, ← h.isS]
  split
  · exact h.repl hr hv
  · exact h.snoc hk h0 hb hr hv
end
end JL
/-! J57: dicts whose keys are nested tuples: {k: v}, k in d, d[k], d[k] = v. -/
namespace JL
open PySem PySem.Spec PyProof.Rows L2
theorem dn_ok {P : Program} {w : World} {H : Hp} {h : Heap} {a : Addr} {xs : List (NestedKey × Addr × Value)} (dd : h.DictOfH (nestedKind P w) a xs) (hs : (a == sysModules) = false) : ObjOk P w H h a (dnO a xs) := by
  obtain ⟨o, es, ep, h1, h2, h3, h4, h5, h6⟩ := dd
  exact ⟨⟨w, o, es, ep, h1, h2, h3, h4, h6, hs⟩, ⟨o, h1⟩, fun g1 g2 ⟨w', o', es', ep', a1, a2, a3, a4, a5, a6⟩ k => ⟨w', o', es', ep', k o' a1, a2, a3, a4, a5, a6⟩⟩
section
variable {X : Cx}
/-- what a key and a dict are -/
structure KD (F H : Hp) (x : V) (a b : Addr) (xs : List (NestedKey × Addr × Value)) (kvs : List (NestedKey × PyData)) (dk : PyData) (k : NestedKey) : Prop where
  sm : Same F H
  ex : x = .ref b
  ha : H a = some (dnO a xs)
  al : NAll F xs kvs
  hk : At F (.ref b) dk
  kn : keyN dk = some k
  dp : k.depth ≤ 8
theorem room8 (hu : X.A.units + 65 < cLine) : (nestedKind X.prog X.w).room X.A.in1 := by
  show X.A.units + 1 + 8 < cLine
  omega
def rInN (neg : Bool) : R2 := fun x y H Q => ∃ a b xs kvs F dk k, KD F H x a b xs kvs dk k ∧ y = .ref a ∧ Q (.bl (xor neg (valD kvs k).isSome)) H
theorem op_inN (hu : X.A.units + 65 < cLine) : OpR X (compareOp .In) (rInN false) := by
  intro pins s σ H x y v u Q I rx ry h
  obtain ⟨a, b, xs, kvs, F, dk, k, g, rfl, q⟩ := h
  obtain rfl := g.ex
  cases rx
  cases ry
  obtain ⟨dd, hs⟩ := dn_of I g.sm g.ha g.al
  refine wpAny_in_heap (room8 hu) ⟨nested_of I g.sm g.hk g.kn rfl, g.dp⟩ hs dd ⟨.bl _, H, I.tok _, rfl, ?_⟩
  rw [g.al.isS]
  simpa using q
theorem op_notInN (hu : X.A.units + 65 < cLine) : OpR X (compareOp .NotIn) (rInN true) := by
  intro pins s σ H x y v u Q I rx ry h
  obtain ⟨a, b, xs, kvs, F, dk, k, g, rfl, q⟩ := h
  obtain rfl := g.ex
  cases rx
  cases ry
  obtain ⟨dd, hs⟩ := dn_of I g.sm g.ha g.al
  refine notIn_keyed (room8 hu) ⟨nested_of I g.sm g.hk g.kn rfl, g.dp⟩ hs ⟨xs, dd, rfl⟩ ⟨.bl _, H, I.tok _, rfl, ?_⟩
  rw [valueAt_pairsH, Option.isSome_map, g.al.isS]
  simpa using q
def tGetN (td ty : TE) : TE := fun σ H Q => td σ H fun x H1 => ty σ H1 fun y H2 => ∃ a b xs kvs F dk k d, KD F H2 y a b xs kvs dk k ∧ x = .ref a ∧ valD kvs k = some d ∧ (∀ v, At F v d → Q v H2)
theorem pe_getN {o i : Expr} {td ty : TE} {pos : Pos} (hu : X.A.units + 65 < cLine) (ho : PE X o td) (hi : PE X i ty) (hs : NoSl i) : PE X (.Subscript o i pos) (tGetN td ty) := by
  refine ⟨fun pins s σ H Q I h => ?_⟩
  refine subD_of PySem.F.slot_dict_getitem.lookup hs (thn (ho.run pins s σ H _ I h) fun u s1 ⟨x, H1, I1, rx, q1⟩ => thn (hi.run pins s1 σ H1 _ I1 q1) fun iv s2 ⟨y, H2, I2, ry, a, b, xs, kvs, F, dk, k, d, g, ex, hv, q2⟩ => ?_)
  subst ex
  obtain rfl := g.ex
  cases rx
  cases ry
  obtain ⟨dd, hsm⟩ := dn_of I2 g.sm g.ha g.al
  obtain ⟨b', u', v', e1, e2, e3⟩ := g.al.get hv
  exact ⟨dd.typeIs, wpAny_getItem_heap (room8 hu) ⟨nested_of I2 g.sm g.hk g.kn rfl, g.dp⟩ dd e1 ⟨v', H2, I2.tok _, e2, q2 v' e3⟩⟩
def sPutN (td ty tv : TE) : TS := fun D σ H => tv σ H fun v H1 => td σ H1 fun x H2 => ty σ H2 fun y H3 => ∃ a b xs kvs F dk k, KD F H3 y a b xs kvs dk k ∧ x = .ref a ∧ xs.length < 100000 ∧ (∀ u, RelV v u → D.nx σ (upd H3 a (dnO a (storedH xs k b u))))
theorem ps_putN {o i value : Expr} {td ty tv : TE} {pos pos' : Pos} (hu : X.A.units + 65 < cLine) (ho : PE X o td) (hi : PE X i ty) (hv : PE X value tv) (hs : swapsWith value (some (.Subscript o i pos')) pos.line X.env = pure false) : PS X (.Assign [.Subscript o i pos'] value pos) (sPutN td ty tv) := by
  refine ⟨fun pins s σ H D I h => ?_⟩
  refine wpAny_Assign_Subscript (thn (hv.run pins s σ H _ I h) fun r s1 ⟨v, H1, I1, rv, q1⟩ => thn (ho.run pins s1 σ H1 _ I1 q1) fun u s2 ⟨x, H2, I2, rx, q2⟩ => thn (hi.run pins s2 σ H2 _ I2 q2) fun iv s3 ⟨y, H3, I3, ry, a, b, xs, kvs, F, dk, k, g, ex, hl, q3⟩ => ?_) hs
  subst ex
  obtain rfl := g.ex
  cases rx
  cases ry
  obtain ⟨dd, hsm⟩ := dn_of I3 g.sm g.ha g.al
  refine wpAny_setItem_heap (hsz := Nat.le_trans (Nat.le_of_lt hl) (by decide)) (room8 hu) ⟨nested_of I3 g.sm g.hk g.kn rfl, g.dp⟩ dd fun h' dd' sb => ⟨σ, _, ?_, q3 r rv⟩
  exact I3.write (x := a) (e := a) (by rw [g.ha]; exact True.intro) (.inl rfl) (fun c u hc z => (sb.2 c hc).trans z) (let ⟨o, _, _, e, _⟩ := dd'; ⟨o, e⟩) (dn_ok dd' hsm)
/-- {k: v} -/
def tDispN (tk tv : TE) : TE := fun σ H Q => ∀ p, H p = none → tk σ (upd H p (dnO p [])) fun x H1 => tv σ H1 fun y H2 => ∃ x' y', [(x, y)] = [(x', y')] ∧ (H2 p = some (dnO p []) ∧ ∃ b F dk k, x' = .ref b ∧ Same F H2 ∧ At F (.ref b) dk ∧ keyN dk = some k ∧ k.depth ≤ 8 ∧ ∀ u, RelV y' u → Q (.ref p) (upd H2 p (dnO p [(k, b, u)])))
theorem disp_keeps {prog : Program} {w : World} {A : Around} {E : Value → Shared → Prop} {s : Shared} {env : Env} {keys : List (Option Expr)} {values : List Expr} {pos : Pos} {pairs : List (Sem Value × Sem Value)} {Q : Value → Shared → Prop} (hu : A.units + 8 < cLine)
    (hsh : (evalEachOpt keys env).zip ((evalEach values env).map fun v => do let x ← v; standAt pos; pure x) = pairs.map fun p => (some p.1, p.2)) (h0 : pairs ≠ []) (h15 : pairs.length ≤ 15)
    (go : wpAny (model prog w) A (evalPairs pairs) (fun vs s₁ => ∃ ps, CarriesH (nestedKind prog w) s₁.heap vs ps ∧ s₁.heap.DictOfH (nestedKind prog w) s.heap.objs.size [] ∧
      ∀ h' tk, h'.DictOfH (nestedKind prog w) s.heap.objs.size (storedAllH [] ps) → Heap.SameBut s.heap.objs.size s₁.heap h' → Q (.ref s.heap.objs.size) { s₁ with heap := h', toks := tk }) E { s with heap := s.heap.push { cls := .type "dict", data := .dict #[] } }) :
    wpAny (model prog w) A (eval (.Dict keys values pos) env) Q E s := by
  have room : (nestedKind prog w).room A := hu
  rw [arm_eval_Dict]
  rw [hsh]
  rw [dictDisplay_pairs pairs h0 (by omega)]
  apply wpAny_bind
  apply wpAny_standAt
  apply wpAny_bind
  refine wpAny_subDictH (knd := nestedKind prog w) room h15 ?_
  refine wpAny_mono go (fun vs s₁ hv => ?_) fun _ _ z => z
  obtain ⟨ps, a, b, c⟩ := hv
  exact ⟨ps, a, b, fun h' tk d e => wpAny_pure (c h' tk d e)⟩
theorem pe_dispN {ke ve : Expr} {tk tv : TE} {pos : Pos} (hu : X.A.units + 65 < cLine) (hk : PE X ke tk) (hv : PE X ve tv) (hsh : (evalEachOpt [some ke] X.env).zip ((evalEach [ve] X.env).map fun v => do let x ← v; standAt pos; pure x) = (pairTrees [some ke] [ve] X.env pos).map fun p => (some p.1, p.2) := by rfl) (hlen : (pairTrees [some ke] [ve] X.env pos).length = 1 := by rfl) :
    PE X (.Dict [some ke] [ve] pos) (tDispN tk tv) := by
  refine ⟨fun pins s σ H Q I q => ?_⟩
  have hn := I.hok.fresh (Nat.le_refl s.heap.objs.size)
  have hs0 : (s.heap.objs.size == sysModules) = false := beq_eq_false_iff_ne.mpr (Ne.symm (Nat.ne_of_lt I.big))
  have I1 := I.laid (a := s.heap.objs.size) (o := dnO s.heap.objs.size []) (h' := s.heap.push { cls := .type "dict", data := .dict #[] }) (t' := s.toks) (fun _ _ q => Heap.get?_push_of_some _ q) (Nat.le_refl _) (dn_ok (Heap.DictOfH.new s.heap) hs0)
  have run := (pps_cons (pos := pos) hk hv pps_nil).run pins _ σ _ (fun ps H2 => ∃ x y, ps = [(x, y)] ∧ (H2 s.heap.objs.size = some (dnO s.heap.objs.size []) ∧ ∃ b F dk k, x = .ref b ∧ Same F H2 ∧ At F (.ref b) dk ∧ keyN dk = some k ∧ k.depth ≤ 8 ∧ ∀ u, RelV y u → Q (.ref s.heap.objs.size) (upd H2 s.heap.objs.size (dnO s.heap.objs.size [(k, b, u)])))) I1
  have run := run (by
    have q' := q _ hn
    show tk σ _ fun x H1 => tv σ H1 fun y H2 => _
    exact q')
  refine disp_keeps (pairs := pairTrees [some ke] [ve] X.env pos) (by omega) hsh (fun z => by rw [z] at hlen; cases hlen) (by rw [hlen]; decide) (thn run fun ws s2 ⟨ps, H2, I2, rel, x, y, ep, e, b, F, dk, k, ex, sm, hb, kn, dp, q2⟩ => ?_)
  subst ep
  subst ex
  cases ws with
  | nil => cases rel
  | cons wv ws =>
    obtain ⟨wk, wy⟩ := wv
    obtain ⟨r1a, r1b⟩ : RelV (V.ref b) wk ∧ RelV y wy := by
      cases rel with
      | cons r1 r2 => exact r1
    have ews : ws = [] := by
      cases rel with
      | cons r1 r2 => cases r2; rfl
    subst ews
    have ewk : wk = Value.ref b := r1a
    subst ewk
    have hni : NestedIs s2.heap k (.ref b) := nested_of I2 sm hb kn rfl
    obtain ⟨dd, hsm⟩ := dn_of (F := H2) (kvs := []) I2 (Same.refl _) e .nil
    refine ⟨[(k, b, wy)], ⟨rfl, rfl, ⟨hni, dp⟩, trivial⟩, dd, fun h' tk dd' sb => ⟨.ref s.heap.objs.size, _, ?_, rfl, q2 wy r1b⟩⟩
    have dd2 : h'.DictOfH (nestedKind X.prog X.w) s.heap.objs.size [(k, b, wy)] := dd'
    exact I2.write (x := s.heap.objs.size) (e := s.heap.objs.size) (by rw [e]; exact True.intro) (.inl rfl) (fun c u hc z => (sb.2 c hc).trans z) (let ⟨o, _, _, e, _⟩ := dd2; ⟨o, e⟩) (dn_ok dd2 hsm)
end
end JL
/-! J58: dicts whose keys are nested tuples: the words. -/
namespace JL
open PySem PySem.Spec PyProof.Rows L2
/-- the key, if it can be one -/
def tkN : PyData → Option NestedKey
  | .tuple ds => (keyN (.tuple ds)).bind fun k => if k.depth ≤ 8 then some k else none
  | _ => none
theorem tkN_iff {d : PyData} {k : NestedKey} (h : tkN d = some k) : (∃ ds, d = .tuple ds) ∧ keyN d = some k ∧ k.depth ≤ 8 := by
  unfold tkN at h
  split at h
  · rename_i ds
    cases q : keyN (.tuple ds) with
    | none => rw [q] at h; cases h
    | some k' =>
      rw [q] at h
      simp only [Option.bind_some] at h
      split at h
      · rename_i hd
        cases h
        exact ⟨⟨ds, rfl⟩, rfl, hd⟩
      · cases h
  · cases h
section
variable {X : Cx} {N : Ent} {W : WX} {e a b c o i value : Expr} {es : List Expr} {ma mb mc mv : M RV} {pos pos' : Pos}
theorem Rel.kd {L : List Addr} {as1 : List (List Addr)} {st : ST} {σ : L2.St} {H : Hp} (r : Rel N L as1 st σ H) {j : Nat} {kvs : List (NestedKey × PyData)} {x v : V} {rb : RV} {dk : PyData} {k : NestedKey} (hv : VRel L as1 σ H v (.hdl j)) (hg : st.gs[j]? = some (.dn kvs)) (hx : VRel L as1 σ H x rb) (hl : st.look rb = some dk) (hk : tkN dk = some k) :
    ∃ p c xs, v = .ref p ∧ as1[j]? = some [p] ∧ KD (mask H L) H x p c xs kvs dk k := by
  obtain ⟨p, fp, ea, ev⟩ := hv
  obtain ⟨p', xs, efp, h1, h2⟩ := r.g.gok j _ _ hg ea
  cases efp
  obtain ⟨⟨ds, hds⟩, kn, dp⟩ := tkN_iff hk
  have hr := r.look hx hl
  rw [hds] at hr
  have ht : At (mask H L) x (.tuple ds) := by
    cases hr with
    | «at» h => exact h
  rw [← hds] at ht
  have hx' : ∃ c, x = .ref c := by
    rw [hds] at ht
    cases ht with
    | tup _ _ => exact ⟨_, rfl⟩
  obtain ⟨c, ec⟩ := hx'
  subst ec
  exact ⟨p, c, xs, ev, ea, mask_same, rfl, h1, h2, ht, kn, dp⟩
@[simp] def mDinN (neg : Bool) (mk md : M RV) (st0 : ST) : R RV := (mk.bind fun b => md.bind fun a => fun st => match a with
  | .hdl j => (match st.gs[j]?, (st.look b).bind tkN with
    | some (.dn kvs), some k => .ok (.dat (.bool (xor neg (valD kvs k).isSome))) st
    | _, _ => .stuck)
  | _ => .stuck) st0
theorem sem_dinN {neg : Bool} {σ : L2.St} {H : Hp} {Q : VK} (h : semE N W (mDinN neg mb ma) σ H Q) : semE N W mb σ H fun y H1 => semE N W ma σ H1 fun x H2 => rInN neg y x H2 Q := by
  obtain ⟨L, as1, st, rel, h⟩ := h
  refine sem_mono (fin_bind (P1 := VRel) rel h) fun v H1 ⟨L3, as3, s3, rv3, r3, v3, x3, f3⟩ => ?_
  refine sem_mono (fin_bind (P1 := VRel) r3 f3) fun w H2 ⟨L6, as6, s6, rv6, r6, v6, x6, f6⟩ => ?_
  have v3' := v3.ext x6
  cases rv6 with
  | dat d => exact f6.elim
  | bor i => exact f6.elim
  | hdl j =>
    dsimp only at f6
    split at f6
    · rename_i kvs k e1 e2
      cases e3 : s6.look rv3 with
      | none => rw [e3] at e2; cases e2
      | some dk =>
        rw [e3] at e2
        obtain ⟨p, c, xs, ev, _, g⟩ := r6.kd v6 e1 v3' e3 e2
        exact ⟨p, c, xs, kvs, _, dk, k, g, ev, fin_dat r6 f6 (Same.refl _) (.bl _)⟩
    · exact f6.elim
theorem jc_dinN (hi : JE X N W i mb) (ho : JE X N W o ma) (hu : X.A.units + 65 < cLine) (hm : behindInMarks .In o = false := by first | exact nobehind _ (by decide) (by decide) | rfl) : JE X N W (.Compare i [.In] [o] pos) (mDinN false mb ma) :=
  PE.weak (pe_cmpR (op_inN hu) hi ho hm) fun σ H Q h => sem_dinN h
theorem jt_dinN (hi : JE X N W i mb) (ho : JE X N W o ma) (hu : X.A.units + 65 < cLine) (hm : behindInMarks .In o = false := by first | exact nobehind _ (by decide) (by decide) | rfl) : JT X N W (.Compare i [.In] [o] pos) (mTest (mDinN false mb ma)) :=
  PT.weak (pt_cmpR (op_inN hu) hi ho hm) fun σ H Q h => sem_dinN (sem_test h)
theorem jt_dnotinN (hi : JE X N W i mb) (ho : JE X N W o ma) (hu : X.A.units + 65 < cLine) (hm : behindInMarks .NotIn o = false := by first | exact nobehind _ (by decide) (by decide) | rfl) : JT X N W (.Compare i [.NotIn] [o] pos) (mTest (mDinN true mb ma)) :=
  PT.weak (pt_cmpR (op_notInN hu) hi ho hm) fun σ H Q h => sem_dinN (sem_test h)
/-- d[k] -/
@[simp] def mDgetN (md mk : M RV) (st0 : ST) : R RV := (md.bind fun a => mk.bind fun b => fun st => match a with
  | .hdl j => (match st.gs[j]?, (st.look b).bind tkN with
    | some (.dn kvs), some k => outO (valD kvs k) st
    | _, _ => .stuck)
  | _ => .stuck) st0
theorem je_dgetN (ho : JE X N W o ma) (hi : JE X N W b mb) (hu : X.A.units + 65 < cLine) (hs : NoSl b := by exact fun _ _ => rfl) : JE X N W (.Subscript o b pos) (mDgetN ma mb) := by
  refine PE.weak (pe_getN hu ho hi hs) fun σ H Q ⟨L, as1, st, rel, h⟩ => ?_
  refine sem_mono (fin_bind (P1 := VRel) rel h) fun v H1 ⟨L3, as3, s3, rv3, r3, v3, x3, f3⟩ => ?_
  refine sem_mono (fin_bind (P1 := VRel) r3 f3) fun w H2 ⟨L6, as6, s6, rv6, r6, v6, x6, f6⟩ => ?_
  have v3' := v3.ext x6
  cases rv3 with
  | dat d => exact f6.elim
  | bor i => exact f6.elim
  | hdl j =>
    dsimp only at f6
    split at f6
    · rename_i kvs k e1 e2
      cases e3 : s6.look rv6 with
      | none => rw [e3] at e2; cases e2
      | some dk =>
        rw [e3] at e2
        cases e4 : valD kvs k with
        | none => rw [e4] at f6; exact f6.elim
        | some g =>
          rw [e4] at f6
          obtain ⟨p, c, xs, ev, _, kd⟩ := r6.kd v3' e1 v6 e3 e2
          exact ⟨p, c, xs, kvs, _, dk, k, g, kd, ev, e4, fun v' hv' => fin_dat r6 f6 (Same.refl _) hv'⟩
    · exact f6.elim
/-- d[k] = v -/
@[simp] def mDputN (md mk mv : M RV) (st0 : ST) : R Flw := (mv.bind fun v => md.bind fun a => mk.bind fun b => fun st => match a, st.esc v with
  | .hdl j, some (.dat d, st') => (match st'.gs[j]?, (st'.look b).bind tkN with
    | some (.dn kvs), some k => if kvs.length < 100000 then .ok .nx { st' with gs := st'.gs.set j (.dn (putKD kvs k d)) } else .stuck
    | _, _ => .stuck)
  | _, _ => .stuck) st0
theorem js_dputN (ho : JE X N W o ma) (hi : JE X N W i mb) (hv : JE X N W value mv) (hu : X.A.units + 65 < cLine) (hs : swapsWith value (some (.Subscript o i pos')) pos.line X.env = pure false := by rfl) :
    JS X N W (.Assign [.Subscript o i pos'] value pos) (mDputN ma mb mv) := by
  refine PS.weak (ps_putN hu ho hi hv hs) fun D σ H ⟨L, as1, st, rel, h⟩ => ?_
  refine sem_mono (finS_bindX (P1 := VRel) rel h) fun v H1 ⟨L1, as2, s1, rv1, r1, v1, x1, f1⟩ => ?_
  refine sem_mono (finS_bindX (P1 := VRel) r1 f1) fun x H2 ⟨L3, as3, s3, rv3, r3, v3, x3, f3⟩ => ?_
  refine sem_mono (finS_bindX (P1 := VRel) r3 f3) fun w H3 ⟨L6, as6, s6, rv6, r6, v6, x6, f6⟩ => ?_
  have v1' := (v1.ext x3).ext x6
  have v3' := v3.ext x6
  cases rv3 with
  | dat d => exact f6.elim
  | bor i => exact f6.elim
  | hdl j =>
    cases e1 : s6.esc rv1 with
    | none => rw [e1] at f6; exact f6.elim
    | some pq =>
      obtain ⟨q, s7⟩ := pq
      rw [e1] at f6
      obtain ⟨L7, r7, x7, v7, n7⟩ := r6.esc v1' e1
      cases q with
      | bor j => exact absurd rfl (n7 j)
      | hdl j => exact f6.elim
      | dat d =>
        dsimp only at f6
        have f7 := FinS.from f6 x7
        split at f7
        · rename_i kvs k e2 e3
          split at f7
          · rename_i hl
            cases e4 : s7.look rv6 with
            | none => rw [e4] at e3; cases e3
            | some dk =>
              rw [e4] at e3
              obtain ⟨p, c, xs, ev, ea, kd⟩ := r7.kd (v3'.ext x7) e2 (v6.ext x7) e4 e3
              have hd : At (mask H3 L7) v d := v7
              refine ⟨p, c, xs, kvs, _, dk, k, kd, ev, by rw [kd.al.len]; exact hl, fun u hu' => ?_⟩
              obtain ⟨r8, x8⟩ := r7.mutG (o := dnO p (storedH xs k c u)) (go := .dn (putKD kvs k d)) ea ⟨p, storedH xs k c u, rfl, upd_same, kd.al.put kd.kn kd.dp kd.hk hu' hd⟩
              exact f7 L7 as6 σ _ r8 x8
          · exact f7.elim
        · exact f7.elim
/-- {k: []}, {k: True}; k in slot i -/
@[simp] def mDispN (i : Nat) (d : PyData) (st : ST) : R RV := match st.sl[i]? with
  | some (.dat dk) => (match tkN dk with
    | some k => .ok (.hdl st.gs.length) { st with gs := st.gs ++ [.dn [(k, d)]] }
    | none => .stuck)
  | _ => .stuck
theorem hdl_last {L : List Addr} {as1 : List (List Addr)} {st : ST} {σ : L2.St} {H H' : Hp} {p : Addr} (r : Rel N L as1 st σ H) : VRel (p :: L) (as1 ++ [[p]]) σ H' (.ref p) (.hdl st.gs.length) := by
  refine ⟨p, [], ?_, rfl⟩
  rw [← r.g.glen, List.getElem?_append_right (Nat.le_refl _), Nat.sub_self]
  rfl
theorem je_dispNC {k : Nat} {x : Str} {px pv : Pos} {bb : Bool} {jj : Nat} (hu : X.A.units + 65 < cLine) (hN : X.N[k]? = some x := by rfl) (hv : Vis X.env.scope x := by first | exact Or.inl rfl | exact Or.inr (Or.inl rfl) | exact Or.inr (Or.inr rfl)) (hd : (x == ("__debug__" : Str)) = false := by decide) (hcd : (x == ("__classdict__" : Str)) = false := by decide)
    (hsh : (evalEachOpt [some (.Name x px)] X.env).zip ((evalEach [.Constant (.bool bb) jj pv] X.env).map fun v => do let x ← v; standAt pos; pure x) = (pairTrees [some (.Name x px)] [.Constant (.bool bb) jj pv] X.env pos).map fun p => (some p.1, p.2) := by rfl) (hlen : (pairTrees [some (.Name x px)] [.Constant (.bool bb) jj pv] X.env pos).length = 1 := by rfl) :
    JE X N W (.Dict [some (.Name x px)] [.Constant (.bool bb) jj pv] pos) (mDispN k (.bool bb)) := by
  refine PE.weak (pe_dispN hu (pe_var hN hv hd hcd) pe_bl hsh hlen) fun σ H Q ⟨L, as1, st, rel, h⟩ => ?_
  unfold mDispN at h
  split at h
  · rename_i dk ek
    split at h
    · rename_i kk ekk
      obtain ⟨⟨ds, hds⟩, kn, dp⟩ := tkN_iff ekk
      obtain ⟨v, e1, e2⟩ := rel.dat k dk ek
      have hx' : ∃ c, v = .ref c := by
        rw [hds] at e2
        cases e2 with
        | tup _ _ => exact ⟨_, rfl⟩
      obtain ⟨c, rfl⟩ := hx'
      intro p np
      refine ⟨.ref c, e1, .ref c, .bl bb, rfl, upd_same, c, mask H L, dk, kk, rfl, mask_same.trans (same_new np), e2, kn, dp, fun u hu' => ?_⟩
      rw [upd_upd]
      have r1 := rel.pushG (o := dnO p [(kk, c, u)]) (go := .dn [(kk, .bool bb)]) np ⟨p, _, rfl, upd_same, .cons kn dp (e2.mono (same_guard np)) hu' (.bl bb) .nil⟩
      exact h (p :: L) (as1 ++ [[p]]) (.ref p) _ r1 (hdl_last rel) ⟨same_guard np, .app⟩
    · exact h.elim
  · exact h.elim
theorem je_dispNL {k : Nat} {x : Str} {px pv : Pos} (hu : X.A.units + 65 < cLine) (hN : X.N[k]? = some x := by rfl) (hv : Vis X.env.scope x := by first | exact Or.inl rfl | exact Or.inr (Or.inl rfl) | exact Or.inr (Or.inr rfl)) (hd : (x == ("__debug__" : Str)) = false := by decide) (hcd : (x == ("__classdict__" : Str)) = false := by decide)
    (hsh : (evalEachOpt [some (.Name x px)] X.env).zip ((evalEach [.List [] pv] X.env).map fun v => do let x ← v; standAt pos; pure x) = (pairTrees [some (.Name x px)] [.List [] pv] X.env pos).map fun p => (some p.1, p.2) := by rfl) (hlen : (pairTrees [some (.Name x px)] [.List [] pv] X.env pos).length = 1 := by rfl) :
    JE X N W (.Dict [some (.Name x px)] [.List [] pv] pos) (mDispN k (.list [])) := by
  refine PE.weak (pe_dispN hu (pe_var hN hv hd hcd) (pe_lst pa_nil) hsh hlen) fun σ H Q ⟨L, as1, st, rel, h⟩ => ?_
  unfold mDispN at h
  split at h
  · rename_i dk ek
    split at h
    · rename_i kk ekk
      obtain ⟨⟨ds, hds⟩, kn, dp⟩ := tkN_iff ekk
      obtain ⟨v, e1, e2⟩ := rel.dat k dk ek
      have hx' : ∃ c, v = .ref c := by
        rw [hds] at e2
        cases e2 with
        | tup _ _ => exact ⟨_, rfl⟩
      obtain ⟨c, rfl⟩ := hx'
      intro p np
      refine ⟨.ref c, e1, Nat.zero_le _, fun l nl => ?_⟩
      have nlp : l ≠ p := fun z => by rw [z, upd_same] at nl; cases nl
      have nl0 : H l = none := by rw [upd_ne nlp] at nl; exact nl
      have nl2 : (upd H l (.lst [])) p = none := by rw [upd_ne (Ne.symm nlp)]; exact np
      have s1 : Same H (upd H l (.lst [])) := same_new nl0
      refine ⟨.ref c, .ref l, rfl, by rw [upd_ne (Ne.symm nlp), upd_same], c, mask H L, dk, kk, rfl, mask_same.trans ((same_new np).trans (same_new nl)), e2, kn, dp, fun u hu' => ?_⟩
      have eH : upd (upd (upd H p (dnO p [])) l (.lst [])) p (dnO p [(kk, c, u)]) = upd (upd H l (.lst [])) p (dnO p [(kk, c, u)]) := by
        funext z
        by_cases z1 : z = p
        · rw [z1, upd_same, upd_same]
        · rw [upd_ne z1, upd_ne z1]
          by_cases z2 : z = l
          · rw [z2, upd_same, upd_same]
          · rw [upd_ne z2, upd_ne z2, upd_ne z1]
      rw [eH]
      have r0 := rel.grow s1
      have lL : l ∉ p :: L := fun z => by
        rcases List.mem_cons.mp z with z | z
        · exact nlp z
        · exact rel.live l z nl0
      have r1 := r0.pushG (o := dnO p [(kk, c, u)]) (go := .dn [(kk, .list [])]) nl2 ⟨p, _, rfl, upd_same, .cons kn dp ((e2.mono (mask_grow s1)).mono (same_guard nl2)) hu' (.lst (mask_of (by rw [upd_ne nlp, upd_same]) lL) .nil) .nil⟩
      exact h (p :: L) (as1 ++ [[p]]) (.ref p) _ r1 (hdl_last rel) ((Ext.grow s1).trans ⟨same_guard nl2, .app⟩)
    · exact h.elim
  · exact h.elim
end
end JL
/-! J59: the dict {None: d}. -/
namespace JL
open PySem PySem.Spec PyProof.Rows L2
theorem d0_ok {P : Program} {w : World} {H : Hp} {h : Heap} {a : Addr} {u : Value} (dd : h.DictOf (leafKind P w) a [(.none, u)]) (hs : (a == sysModules) = false) : ObjOk P w H h a (d0O a u) := by
  obtain ⟨o, es, ep, h1, h2, h3, h4, h5, h6⟩ := dd
  have he : es.toList = [(⟨NestedKey.hash w .none, .none, u⟩ : DictEntry)] := by
    generalize hL : es.toList = L at h5
    cases h5 with
    | cons a1 a2 a3 =>
      cases a3
      rename_i e
      obtain ⟨k, k1, k2⟩ := h4 e (by rw [← Array.mem_toList_iff, hL]; simp)
      obtain ⟨eh, ek, ev⟩ := e
      have hek : ek = .none := by
        cases ek <;> first | rfl | exact absurd a1 (by simp [leafKind, Leaf.isOf])
      subst hek
      have hk : k = .none := by
        cases k with
        | none => rfl
        | num i => exact absurd k1 (by simp [leafKind, Leaf.isOf])
        | text i => exact absurd k1 (by simp [leafKind, Leaf.isOf]; rfl)
      subst hk
      have e1 : eh = NestedKey.hash w .none := k2
      have e2 : ev = u := a2
      rw [e1, e2]
  exact ⟨⟨w, o, es, ep, h1, h2, h3, he, hs⟩, ⟨o, h1⟩, fun g1 g2 ⟨w', o', es', ep', a1, a2, a3, a4, a5⟩ k => ⟨w', o', es', ep', k o' a1, a2, a3, a4, a5⟩⟩
section
variable {X : Cx} {pins : List (Addr × Obj)} {s : Shared} {σ : L2.St} {H F : Hp}
theorem d0_of (I : Inv X pins σ H s) {a : Addr} {u : Value} (ha : H a = some (d0O a u)) : s.heap.DictOf (leafKind X.prog X.w) a [(.none, u)] ∧ (a == sysModules) = false := by
  obtain ⟨⟨w, o, es, ep, h1, h2, h3, h4, h6⟩, _, _⟩ := I.hok a _ ha
  refine ⟨⟨o, es, ep, h1, h2, h3, ?_, ?_, by simp⟩, h6⟩
  · intro e he
    rw [← Array.mem_toList_iff, h4, List.mem_singleton] at he
    subst he
    exact ⟨.none, rfl, hash_nt w X.w .none rfl⟩
  · rw [h4]
    exact .cons rfl rfl .nil
theorem dz_of (I : Inv X pins σ H s) {a : Addr} (ha : H a = some (dnO a [])) : s.heap.DictOf (leafKind X.prog X.w) a [] ∧ (a == sysModules) = false := by
  obtain ⟨⟨w, o, es, ep, h1, h2, h3, h4, h5, h6⟩, _, _⟩ := I.hok a _ ha
  have h4 : es.toList = [] := h4
  refine ⟨⟨o, es, ep, h1, h2, h3, ?_, ?_, by simp⟩, h6⟩
  · intro e he
    rw [← Array.mem_toList_iff, h4] at he
    cases he
  · rw [h4]
    exact .nil
/-- either of two ways -/
theorem PE.or {e : Expr} {t1 t2 : TE} (h1 : PE X e t1) (h2 : PE X e t2) : PE X e (fun σ H Q => t1 σ H Q ∨ t2 σ H Q) :=
  ⟨fun pins s σ H Q I h => h.elim (fun h => h1.run pins s σ H Q I h) fun h => h2.run pins s σ H Q I h⟩
def rIn0 (neg : Bool) : R2 := fun x y H Q => ∃ a u, x = .non ∧ y = .ref a ∧ H a = some (d0O a u) ∧ Q (.bl (!neg)) H
theorem op_in0 (hu : X.A.units + 65 < cLine) : OpR X (compareOp .In) (fun x y H Q => rInN false x y H Q ∨ rIn0 false x y H Q) := by
  intro pins s σ H x y v u Q I rx ry h
  rcases h with h | ⟨a, u0, rfl, rfl, ha, q⟩
  · exact op_inN hu pins s σ H x y v u Q I rx ry h
  · cases rx
    cases ry
    obtain ⟨dd, hs⟩ := d0_of I ha
    exact wpAny_in_of (knd := leafKind X.prog X.w) (k := .none) rfl hs dd.mapOf ⟨.bl _, H, I.tok _, rfl, q⟩
theorem op_notIn0 (hu : X.A.units + 65 < cLine) : OpR X (compareOp .NotIn) (fun x y H Q => rInN true x y H Q ∨ rIn0 true x y H Q) := by
  intro pins s σ H x y v u Q I rx ry h
  rcases h with h | ⟨a, u0, rfl, rfl, ha, q⟩
  · exact op_notInN hu pins s σ H x y v u Q I rx ry h
  · cases rx
    cases ry
    obtain ⟨dd, hs⟩ := d0_of I ha
    exact wpAny_notIn_of (knd := leafKind X.prog X.w) (k := .none) rfl hs dd.mapOf ⟨.bl _, H, I.tok _, rfl, q⟩
def tGet0 (td ty : TE) : TE := fun σ H Q => td σ H fun x H1 => ty σ H1 fun y H2 => (∃ a b xs kvs F dk k d, KD F H2 y a b xs kvs dk k ∧ x = .ref a ∧ valD kvs k = some d ∧ (∀ v, At F v d → Q v H2)) ∨ (∃ a u v, y = .non ∧ x = .ref a ∧ H2 a = some (d0O a u) ∧ RelV v u ∧ Q v H2)
theorem pe_get0 {o i : Expr} {td ty : TE} {pos : Pos} (hu : X.A.units + 65 < cLine) (ho : PE X o td) (hi : PE X i ty) (hs : NoSl i) : PE X (.Subscript o i pos) (tGet0 td ty) := by
  refine ⟨fun pins s σ H Q I h => ?_⟩
  refine subD_of PySem.F.slot_dict_getitem.lookup hs (thn (ho.run pins s σ H _ I h) fun u s1 ⟨x, H1, I1, rx, q1⟩ => thn (hi.run pins s1 σ H1 _ I1 q1) fun iv s2 ⟨y, H2, I2, ry, q2⟩ => ?_)
  rcases q2 with ⟨a, b, xs, kvs, F, dk, k, d, g, ex, hv, q2⟩ | ⟨a, u0, v0, ey, ex, ha, rv, q2⟩
  · subst ex
    obtain rfl := g.ex
    cases rx
    cases ry
    obtain ⟨dd, hsm⟩ := dn_of I2 g.sm g.ha g.al
    obtain ⟨b', u', v', e1, e2, e3⟩ := g.al.get hv
    exact ⟨dd.typeIs, wpAny_getItem_heap (room8 hu) ⟨nested_of I2 g.sm g.hk g.kn rfl, g.dp⟩ dd e1 ⟨v', H2, I2.tok _, e2, q2 v' e3⟩⟩
  · subst ex
    subst ey
    cases rx
    cases ry
    obtain ⟨dd, hsm⟩ := d0_of I2 ha
    exact ⟨dd.typeIs, wpAny_getItem_of (knd := leafKind X.prog X.w) (k := .none) rfl dd.mapOf rfl ⟨v0, H2, I2.tok _, rv, q2⟩⟩
/-- {None: v} -/
def tDisp0 (tk tv : TE) : TE := fun σ H Q => ∀ p, H p = none → tk σ (upd H p (dnO p [])) fun x H1 => tv σ H1 fun y H2 => ∃ x' y', [(x, y)] = [(x', y')] ∧ (H2 p = some (dnO p []) ∧ x' = .non ∧ ∀ u, RelV y' u → Q (.ref p) (upd H2 p (d0O p u)))
theorem pe_disp0 {ke ve : Expr} {tk tv : TE} {pos : Pos} (hk : PE X ke tk) (hv : PE X ve tv) (hsh : (evalEachOpt [some ke] X.env).zip ((evalEach [ve] X.env).map fun v => do let x ← v; standAt pos; pure x) = (pairTrees [some ke] [ve] X.env pos).map fun p => (some p.1, p.2) := by rfl) (hlen : (pairTrees [some ke] [ve] X.env pos).length = 1 := by rfl) :
    PE X (.Dict [some ke] [ve] pos) (tDisp0 tk tv) := by
  refine ⟨fun pins s σ H Q I q => ?_⟩
  have hn := I.hok.fresh (Nat.le_refl s.heap.objs.size)
  have hs0 : (s.heap.objs.size == sysModules) = false := beq_eq_false_iff_ne.mpr (Ne.symm (Nat.ne_of_lt I.big))
  have I1 := I.laid (a := s.heap.objs.size) (o := dnO s.heap.objs.size []) (h' := s.heap.push { cls := .type "dict", data := .dict #[] }) (t' := s.toks) (fun _ _ q => Heap.get?_push_of_some _ q) (Nat.le_refl _) (dn_ok (Heap.DictOfH.new s.heap) hs0)
  have run := (pps_cons (pos := pos) hk hv pps_nil).run pins _ σ _ (fun ps H2 => ∃ x y, ps = [(x, y)] ∧ (H2 s.heap.objs.size = some (dnO s.heap.objs.size []) ∧ x = .non ∧ ∀ u, RelV y u → Q (.ref s.heap.objs.size) (upd H2 s.heap.objs.size (d0O s.heap.objs.size u)))) I1
  have run := run (by
    have q' := q _ hn
    show tk σ _ fun x H1 => tv σ H1 fun y H2 => _
    exact q')
  refine wpAny_Dict_pairs (knd := leafKind X.prog X.w) (pairs := pairTrees [some ke] [ve] X.env pos) hsh (fun z => by rw [z] at hlen; cases hlen) (by rw [hlen]; decide) (thn run fun ws s2 ⟨ps, H2, I2, rel, x, y, ep, e, ex, q2⟩ => ?_)
  subst ep
  subst ex
  cases ws with
  | nil => cases rel
  | cons wv ws =>
    obtain ⟨wk, wy⟩ := wv
    obtain ⟨r1a, r1b⟩ : RelV V.non wk ∧ RelV y wy := by
      cases rel with
      | cons r1 r2 => exact r1
    have ews : ws = [] := by
      cases rel with
      | cons r1 r2 => cases r2; rfl
    subst ews
    have ewk : wk = Value.none := r1a
    subst ewk
    obtain ⟨dd, hsm⟩ := dz_of I2 e
    refine ⟨[(.none, wy)], ⟨rfl, rfl, trivial⟩, dd, fun h' dd' sb => ⟨.ref s.heap.objs.size, _, ?_, rfl, q2 wy r1b⟩⟩
    have dd2 : h'.DictOf (leafKind X.prog X.w) s.heap.objs.size [(.none, wy)] := dd'
    exact I2.write (x := s.heap.objs.size) (e := s.heap.objs.size) (by rw [e]; exact True.intro) (.inl rfl) (fun c u hc z => (sb.2 c hc).trans z) (let ⟨o, _, _, e, _⟩ := dd2; ⟨o, e⟩) (d0_ok dd2 hsm)
end
end JL
/-! J60: dicts with trees as keys, None among them; three targets. -/
namespace JL
open PySem PySem.Spec PyProof.Rows L2
section
variable {X : Cx} {N : Ent} {W : WX} {e a b c o i value : Expr} {es : List Expr} {ma mb mc mv : M RV} {mr : M (List RV)} {pos pos' : Pos}
theorem Rel.kd0 {L : List Addr} {as1 : List (List Addr)} {st : ST} {σ : L2.St} {H : Hp} (r : Rel N L as1 st σ H) {j : Nat} {d : PyData} {x v : V} {rb : RV} (hv : VRel L as1 σ H v (.hdl j)) (hg : st.gs[j]? = some (.d0 d)) (hx : VRel L as1 σ H x rb) (hl : st.look rb = some .none) :
    x = .non ∧ ∃ p u w, v = .ref p ∧ H p = some (d0O p u) ∧ RelV w u ∧ At (mask H L) w d := by
  obtain ⟨p, fp, ea, ev⟩ := hv
  obtain ⟨p', u, w, efp, h1, h2, h3⟩ := r.g.gok j _ _ hg ea
  cases efp
  have hr := r.look hx hl
  have ht : At (mask H L) x .none := by
    cases hr with
    | «at» h => exact h
  refine ⟨?_, p, u, w, ev, h1, h2, h3⟩
  cases ht
  rfl
@[simp] def mDin0 (neg : Bool) (mk md : M RV) (st0 : ST) : R RV := (mk.bind fun b => md.bind fun a => fun st => match a with
  | .hdl j => (match st.gs[j]?, st.look b with
    | some (.dn kvs), some d => (match tkN d with
      | some k => .ok (.dat (.bool (xor neg (valD kvs k).isSome))) st
      | none => .stuck)
    | some (.d0 _), some .none => .ok (.dat (.bool (!neg))) st
    | _, _ => .stuck)
  | _ => .stuck) st0
theorem sem_din0 {neg : Bool} {σ : L2.St} {H : Hp} {Q : VK} (h : semE N W (mDin0 neg mb ma) σ H Q) : semE N W mb σ H fun y H1 => semE N W ma σ H1 fun x H2 => rInN neg y x H2 Q ∨ rIn0 neg y x H2 Q := by
  obtain ⟨L, as1, st, rel, h⟩ := h
  refine sem_mono (fin_bind (P1 := VRel) rel h) fun v H1 ⟨L3, as3, s3, rv3, r3, v3, x3, f3⟩ => ?_
  refine sem_mono (fin_bind (P1 := VRel) r3 f3) fun w H2 ⟨L6, as6, s6, rv6, r6, v6, x6, f6⟩ => ?_
  have v3' := v3.ext x6
  cases rv6 with
  | dat d => exact f6.elim
  | bor i => exact f6.elim
  | hdl j =>
    dsimp only at f6
    split at f6
    · rename_i kvs d e1 e2
      split at f6
      · rename_i k e3
        obtain ⟨p, c, xs, ev, _, g⟩ := r6.kd v6 e1 v3' e2 e3
        exact .inl ⟨p, c, xs, kvs, _, d, k, g, ev, fin_dat r6 f6 (Same.refl _) (.bl _)⟩
      · exact f6.elim
    · rename_i d e1 e2
      obtain ⟨ex, p, u, w0, ev, h1, h2, h3⟩ := r6.kd0 v6 e1 v3' e2
      exact .inr ⟨p, u, ex, ev, h1, fin_dat r6 f6 (Same.refl _) (.bl _)⟩
    · exact f6.elim
theorem jc_din0 (hi : JE X N W i mb) (ho : JE X N W o ma) (hu : X.A.units + 65 < cLine) (hm : behindInMarks .In o = false := by first | exact nobehind _ (by decide) (by decide) | rfl) : JE X N W (.Compare i [.In] [o] pos) (mDin0 false mb ma) :=
  PE.weak (pe_cmpR (op_in0 hu) hi ho hm) fun σ H Q h => sem_din0 h
theorem jt_din0 (hi : JE X N W i mb) (ho : JE X N W o ma) (hu : X.A.units + 65 < cLine) (hm : behindInMarks .In o = false := by first | exact nobehind _ (by decide) (by decide) | rfl) : JT X N W (.Compare i [.In] [o] pos) (mTest (mDin0 false mb ma)) :=
  PT.weak (pt_cmpR (op_in0 hu) hi ho hm) fun σ H Q h => sem_din0 (sem_test h)
theorem jt_dnotin0 (hi : JE X N W i mb) (ho : JE X N W o ma) (hu : X.A.units + 65 < cLine) (hm : behindInMarks .NotIn o = false := by first | exact nobehind _ (by decide) (by decide) | rfl) : JT X N W (.Compare i [.NotIn] [o] pos) (mTest (mDin0 true mb ma)) :=
  PT.weak (pt_cmpR (op_notIn0 hu) hi ho hm) fun σ H Q h => sem_din0 (sem_test h)
/-- d[k] -/
@[simp] def mDget0 (md mk : M RV) (st0 : ST) : R RV := (md.bind fun a => mk.bind fun b => fun st => match a with
  | .hdl j => (match st.gs[j]?, st.look b with
    | some (.dn kvs), some d => (match tkN d with
      | some k => outO (valD kvs k) st
      | none => .stuck)
    | some (.d0 d), some .none => .ok (.dat d) st
    | _, _ => .stuck)
  | _ => .stuck) st0
theorem je_dget0 (ho : JE X N W o ma) (hi : JE X N W b mb) (hu : X.A.units + 65 < cLine) (hs : NoSl b := by exact fun _ _ => rfl) : JE X N W (.Subscript o b pos) (mDget0 ma mb) := by
  refine PE.weak (pe_get0 hu ho hi hs) fun σ H Q ⟨L, as1, st, rel, h⟩ => ?_
  refine sem_mono (fin_bind (P1 := VRel) rel h) fun v H1 ⟨L3, as3, s3, rv3, r3, v3, x3, f3⟩ => ?_
  refine sem_mono (fin_bind (P1 := VRel) r3 f3) fun w H2 ⟨L6, as6, s6, rv6, r6, v6, x6, f6⟩ => ?_
  have v3' := v3.ext x6
  cases rv3 with
  | dat d => exact f6.elim
  | bor i => exact f6.elim
  | hdl j =>
    dsimp only at f6
    split at f6
    · rename_i kvs dk e1 e3
      split at f6
      · rename_i k e2
        cases e4 : valD kvs k with
        | none => rw [e4] at f6; exact f6.elim
        | some g =>
          rw [e4] at f6
          obtain ⟨p, c, xs, ev, _, kd⟩ := r6.kd v3' e1 v6 e3 e2
          exact .inl ⟨p, c, xs, kvs, _, dk, k, g, kd, ev, e4, fun v' hv' => fin_dat r6 f6 (Same.refl _) hv'⟩
      · exact f6.elim
    · rename_i d e1 e2
      obtain ⟨ex, p, u, w0, ev, h1, h2, h3⟩ := r6.kd0 v3' e1 v6 e2
      exact .inr ⟨p, u, w0, ex, ev, h1, h2, fin_dat r6 f6 (Same.refl _) h3⟩
    · exact f6.elim
/-- three targets -/
@[simp] def mPar3 (i j l : Nat) (mr : M (List RV)) (st0 : ST) : R Flw := (mr.bind fun r => fun st => match escAll r st with
  | some ([x, y, z], st') => (match ((setV i st' x).bind fun s => setV j s y).bind fun s => setV l s z with
    | some s => .ok .nx s
    | none => .stuck)
  | _ => .stuck) st0
theorem js_par3 {i j l : Nat} {x y z : Str} {px py pz pt pt2 : Pos} {kt k2 : Nat} (hN : X.N.Nodup) (ha : JA X N W [a, b, c] mr) (hw : swappedStores [.Tuple [.Name x px, .Name y py, .Name z pz] kt pt] (.Tuple [a, b, c] k2 pt2) X.env = pure (some [x, y, z]) := by rfl) (hc : X.calm = true := by rfl) (hi : X.N[i]? = some x := by rfl) (hj : X.N[j]? = some y := by rfl) (hl : X.N[l]? = some z := by rfl) (hij : i ≠ j := by decide) (hil : i ≠ l := by decide) (hjl : j ≠ l := by decide)
    (hx : X.env.scope.names.lookup x = some .local := by rfl) (hy : X.env.scope.names.lookup y = some .local := by rfl) (hz : X.env.scope.names.lookup z = some .local := by rfl) (hs : swapsWithSole [.Tuple [.Name x px, .Name y py, .Name z pz] kt pt] (.Tuple [a, b, c] k2 pt2) pos.line X.env = pure false := by rfl) :
    JS X N W (.Assign [.Tuple [.Name x px, .Name y py, .Name z pz] kt pt] (.Tuple [a, b, c] k2 pt2) pos) (mPar3 i j l mr) := by
  refine PS.weak (ps_par3 hc hN hi hj hl hij hil hjl hx hy hz ha hw hs) fun D σ H ⟨L, as1, st, rel, h⟩ => ?_
  refine sem_mono (finS_bindX (P1 := VRels) rel h) fun vs H1 ⟨L3, as3, s3, rs, r3, v3, x3, f3⟩ => ?_
  cases e1 : escAll rs s3 with
  | none => rw [e1] at f3; exact f3.elim
  | some pq =>
    obtain ⟨qs, s4⟩ := pq
    rw [e1] at f3
    obtain ⟨L4, r4, x4, v4, n4⟩ := Rel.escAll r3 v3 e1
    have v5 := v4.bare n4
    split at f3
    · rename_i p q t st' ez
      cases ez
      cases v5 with
      | cons h1 t1 =>
        cases t1 with
        | cons h2 t2 =>
          cases t2 with
          | cons h3 t3 =>
            cases t3
            refine ⟨_, _, _, rfl, ?_⟩
            cases e2 : setV i s4 p with
            | none => rw [e2] at f3; exact f3.elim
            | some s5 =>
              rw [e2] at f3
              simp only [Option.bind_some] at f3
              cases e3 : setV j s5 q with
              | none => rw [e3] at f3; exact f3.elim
              | some s6 =>
                rw [e3] at f3
                simp only [Option.bind_some] at f3
                cases e4 : setV l s6 t with
                | none => rw [e4] at f3; exact f3.elim
                | some s7 =>
                  rw [e4] at f3
                  have r5 := r4.setV h1 e2
                  have r6 := r5.setV h2 e3
                  have r7 := r6.setV h3 e4
                  exact f3 L4 as3 _ H1 r7 x4
    · exact f3.elim
end
end JL
/-! J61: {k: []}, {k: True} where k may be None. -/
namespace JL
open PySem PySem.Spec PyProof.Rows L2
section
variable {X : Cx} {N : Ent} {W : WX} {pos : Pos}
@[simp] def mDisp0 (i : Nat) (d : PyData) (st : ST) : R RV := match st.sl[i]? with
  | some (.dat .none) => .ok (.hdl st.gs.length) { st with gs := st.gs ++ [.d0 d] }
  | some (.dat dk) => (match tkN dk with
    | some k => .ok (.hdl st.gs.length) { st with gs := st.gs ++ [.dn [(k, d)]] }
    | none => .stuck)
  | _ => .stuck
theorem mDisp0_cases (i : Nat) (d : PyData) (st : ST) : (st.sl[i]? = some (.dat .none) ∧ mDisp0 i d st = .ok (.hdl st.gs.length) { st with gs := st.gs ++ [.d0 d] }) ∨ mDisp0 i d st = mDispN i d st := by
  unfold mDisp0 mDispN
  cases h : st.sl[i]? with
  | none => exact .inr rfl
  | some sv =>
    cases sv with
    | dat dk =>
      cases dk with
      | none => exact .inl ⟨rfl, rfl⟩
      | _ => exact .inr rfl
    | _ => exact .inr rfl
variable {k : Nat} {x : Str} {px pv : Pos} {bb : Bool} {jj : Nat}
theorem je_none0C (hN : X.N[k]? = some x) (hv : Vis X.env.scope x) (hd : (x == ("__debug__" : Str)) = false) (hcd : (x == ("__classdict__" : Str)) = false)
    (hsh : (evalEachOpt [some (.Name x px)] X.env).zip ((evalEach [.Constant (.bool bb) jj pv] X.env).map fun v => do let x ← v; standAt pos; pure x) = (pairTrees [some (.Name x px)] [.Constant (.bool bb) jj pv] X.env pos).map fun p => (some p.1, p.2)) (hlen : (pairTrees [some (.Name x px)] [.Constant (.bool bb) jj pv] X.env pos).length = 1) :
    PE X (.Dict [some (.Name x px)] [.Constant (.bool bb) jj pv] pos) (fun σ H Q => ∃ L as1 st, Rel N L as1 st σ H ∧ st.sl[k]? = some (.dat .none) ∧ Fin N W VRel L as1 σ H (.ok (.hdl st.gs.length) { st with gs := st.gs ++ [.d0 (.bool bb)] }) Q) := by
  refine PE.weak (pe_disp0 (pe_var hN hv hd hcd) pe_bl hsh hlen) fun σ H Q ⟨L, as1, st, rel, ek, h⟩ => ?_
  obtain ⟨v, e1, e2⟩ := rel.dat k .none ek
  cases e2
  intro p np
  refine ⟨.non, e1, .non, .bl bb, rfl, upd_same, rfl, fun u hu' => ?_⟩
  rw [upd_upd]
  have r1 := rel.pushG (o := d0O p u) (go := .d0 (.bool bb)) np ⟨p, u, .bl bb, rfl, upd_same, hu', .bl bb⟩
  exact h (p :: L) (as1 ++ [[p]]) (.ref p) _ r1 (hdl_last rel) ⟨same_guard np, .app⟩
theorem je_disp0C (hu : X.A.units + 65 < cLine) (hN : X.N[k]? = some x := by rfl) (hv : Vis X.env.scope x := by first | exact Or.inl rfl | exact Or.inr (Or.inl rfl) | exact Or.inr (Or.inr rfl)) (hd : (x == ("__debug__" : Str)) = false := by decide) (hcd : (x == ("__classdict__" : Str)) = false := by decide)
    (hsh : (evalEachOpt [some (.Name x px)] X.env).zip ((evalEach [.Constant (.bool bb) jj pv] X.env).map fun v => do let x ← v; standAt pos; pure x) = (pairTrees [some (.Name x px)] [.Constant (.bool bb) jj pv] X.env pos).map fun p => (some p.1, p.2) := by rfl) (hlen : (pairTrees [some (.Name x px)] [.Constant (.bool bb) jj pv] X.env pos).length = 1 := by rfl) :
    JE X N W (.Dict [some (.Name x px)] [.Constant (.bool bb) jj pv] pos) (mDisp0 k (.bool bb)) := by
  refine PE.weak (PE.or (je_none0C (N := N) (W := W) hN hv hd hcd hsh hlen) (je_dispNC (N := N) (W := W) hu hN hv hd hcd hsh hlen)) fun σ H Q ⟨L, as1, st, rel, h⟩ => ?_
  rcases mDisp0_cases k (.bool bb) st with ⟨e, q⟩ | q
  · rw [q] at h
    exact .inl ⟨L, as1, st, rel, e, h⟩
  · rw [q] at h
    exact .inr ⟨L, as1, st, rel, h⟩
theorem je_none0L (hN : X.N[k]? = some x) (hv : Vis X.env.scope x) (hd : (x == ("__debug__" : Str)) = false) (hcd : (x == ("__classdict__" : Str)) = false)
    (hsh : (evalEachOpt [some (.Name x px)] X.env).zip ((evalEach [.List [] pv] X.env).map fun v => do let x ← v; standAt pos; pure x) = (pairTrees [some (.Name x px)] [.List [] pv] X.env pos).map fun p => (some p.1, p.2)) (hlen : (pairTrees [some (.Name x px)] [.List [] pv] X.env pos).length = 1) :
    PE X (.Dict [some (.Name x px)] [.List [] pv] pos) (fun σ H Q => ∃ L as1 st, Rel N L as1 st σ H ∧ st.sl[k]? = some (.dat .none) ∧ Fin N W VRel L as1 σ H (.ok (.hdl st.gs.length) { st with gs := st.gs ++ [.d0 (.list [])] }) Q) := by
  refine PE.weak (pe_disp0 (pe_var hN hv hd hcd) (pe_lst pa_nil) hsh hlen) fun σ H Q ⟨L, as1, st, rel, ek, h⟩ => ?_
  obtain ⟨v, e1, e2⟩ := rel.dat k .none ek
  cases e2
  intro p np
  refine ⟨.non, e1, Nat.zero_le _, fun l nl => ?_⟩
  have nlp : l ≠ p := fun z => by rw [z, upd_same] at nl; cases nl
  have nl0 : H l = none := by rw [upd_ne nlp] at nl; exact nl
  have nl2 : (upd H l (.lst [])) p = none := by rw [upd_ne (Ne.symm nlp)]; exact np
  have s1 : Same H (upd H l (.lst [])) := same_new nl0
  refine ⟨.non, .ref l, rfl, by rw [upd_ne (Ne.symm nlp), upd_same], rfl, fun u hu' => ?_⟩
  have eH : upd (upd (upd H p (dnO p [])) l (.lst [])) p (d0O p u) = upd (upd H l (.lst [])) p (d0O p u) := by
    funext z
    by_cases z1 : z = p
    · rw [z1, upd_same, upd_same]
    · rw [upd_ne z1, upd_ne z1]
      by_cases z2 : z = l
      · rw [z2, upd_same, upd_same]
      · rw [upd_ne z2, upd_ne z2, upd_ne z1]
  rw [eH]
  have r0 := rel.grow s1
  have lL : l ∉ p :: L := fun z => by
    rcases List.mem_cons.mp z with z | z
    · exact nlp z
    · exact rel.live l z nl0
  have r1 := r0.pushG (o := d0O p u) (go := .d0 (.list [])) nl2 ⟨p, u, .ref l, rfl, upd_same, hu', .lst (mask_of (by rw [upd_ne nlp, upd_same]) lL) .nil⟩
  exact h (p :: L) (as1 ++ [[p]]) (.ref p) _ r1 (hdl_last rel) ((Ext.grow s1).trans ⟨same_guard nl2, .app⟩)
theorem je_disp0L (hu : X.A.units + 65 < cLine) (hN : X.N[k]? = some x := by rfl) (hv : Vis X.env.scope x := by first | exact Or.inl rfl | exact Or.inr (Or.inl rfl) | exact Or.inr (Or.inr rfl)) (hd : (x == ("__debug__" : Str)) = false := by decide) (hcd : (x == ("__classdict__" : Str)) = false := by decide)
    (hsh : (evalEachOpt [some (.Name x px)] X.env).zip ((evalEach [.List [] pv] X.env).map fun v => do let x ← v; standAt pos; pure x) = (pairTrees [some (.Name x px)] [.List [] pv] X.env pos).map fun p => (some p.1, p.2) := by rfl) (hlen : (pairTrees [some (.Name x px)] [.List [] pv] X.env pos).length = 1 := by rfl) :
    JE X N W (.Dict [some (.Name x px)] [.List [] pv] pos) (mDisp0 k (.list [])) := by
  refine PE.weak (PE.or (je_none0L (N := N) (W := W) hN hv hd hcd hsh hlen) (je_dispNL (N := N) (W := W) hu hN hv hd hcd hsh hlen)) fun σ H Q ⟨L, as1, st, rel, h⟩ => ?_
  rcases mDisp0_cases k (.list []) st with ⟨e, q⟩ | q
  · rw [q] at h
    exact .inl ⟨L, as1, st, rel, e, h⟩
  · rw [q] at h
    exact .inr ⟨L, as1, st, rel, h⟩
end
end JL
/-! J62: defs and calls that see nothing of the store. -/
namespace JL
open PySem PySem.Spec PyProof.Rows L2
@[simp] def allDat : List RV → Bool
  | [] => true
  | .dat _ :: r => allDat r
  | .bor _ :: _ => false
  | .hdl _ :: _ => false
theorem VRels.dats0 {L : List Addr} {as as' : List (List Addr)} {σ σ' : L2.St} {H : Hp} : ∀ {vs : List V} {qs : List RV}, VRels L as σ H vs qs → allDat qs = true → VRels L as' σ' H vs qs
  | _, _, .nil, _ => .nil
  | _, _, .cons (a := a) h t, e => by
    cases a with
    | dat d => exact .cons h (VRels.dats0 t e)
    | bor i => cases e
    | hdl j => cases e
theorem grel_nil {cls : Cl} {L : List Addr} {H : Hp} : GRel cls L [] [] H := ⟨rfl, fun j go fp e _ => by simp at e, fun fp h => by simp at h, by simp⟩
@[simp] def boxF (F : FS) : FS := fun args gs => if allDat args = true then (match F args [] with
  | .ok (.dat d) _ => .ok (.dat d) gs
  | _ => .stuck) else .stuck
section
variable {P : Program} {w : World} {K : PySem.W.Frag} {mg : Str → Option Value} {base : Heap}
/-- a def that is run on an empty store -/
theorem fn_okz {x qual : Str} {st : Stmt} {f : Addr} {fd : FuncData} {Nn ps : List Str} {k : Nat} {mb : M Flw} (cls : Cl) (F : Fun K x qual st f fd) (S : FnScope Nn ps (defScope st))
    (hbody : ∀ (cdv : Value) (A : Around) (outer : List Env) (s : Shared) (H : Hp) (E : XK), Room k (A.deeper (envOfC qual (defScope st) s.heap.objs.size f cdv)) → ∀ (L0 : List Addr),
      JSs (cxOf (L2.CX P w) P w K mg base Nn qual (defScope st) f cdv A outer s H E) ⟨[], L0, H, cls⟩ (fun c d _ H' => E c d H') (defBody st) mb) :
    FnOk P w K mg base (L2.CX P w) (k + 1) f fd ps (spF cls ps.length (boxF (runF Nn.length mb))) := by
  refine F.okX S (fun vs H Q E h => h.1) fun cdv A outer s H vs Q E hr h => ?_
  obtain ⟨hl, as0, L0, args, gs, live, hv, g, h⟩ := h
  unfold boxF at h
  by_cases hd : allDat args = true
  · rw [if_pos hd] at h
    refine fn_end_at (ps := ps) (as0 := []) (gs := []) (L0 := L0) (args := args) (hbody cdv A outer s H E hr L0) live (hv.dats0 hd) grel_nil ?_
    cases e : runF Nn.length mb args [] with
    | stuck => rw [e] at h; exact h
    | exc c gs' => rw [e] at h; exact h.elim
    | ok r gs' =>
      rw [e] at h
      cases r with
      | bor i => exact h.elim
      | hdl j => exact h.elim
      | dat d =>
        intro v H' L' as' sp _ vr
        have keep : ∀ p o, H p = some o → H' p = some o := fun p o hp => sp.frame p o hp (by simp)
        refine h v H' L' as0 ⟨sp.sub, sp.new, sp.live, fun p o hp _ => keep p o hp, fun a ha => .inl ha, .refl, sp.nt⟩ ?_ vr
        refine g.mono (fun p o hp => ?_) (fun fp _ a _ o ho => keep a o ho) fun fp hf a ha => sp.sub a (g.gin fp hf a ha)
        obtain ⟨e1, n1⟩ := of_mask hp
        refine mask_of (keep p o e1) fun z => ?_
        rcases sp.new p z with z | z
        · exact n1 z
        · rw [z] at e1; cases e1
  · rw [if_neg hd] at h
    exact h.elim
end
section
variable {X : Cx} {N : Ent} {W : WX} {e : Expr} {es : List Expr} {mr : M (List RV)} {pos : Pos}
/-- a call that sees nothing of the store -/
@[simp] def mFnz (n : Nat) (F : FS) (mr : M (List RV)) (st0 : ST) : R RV := (mr.bind fun r => fun st => match escAll r st with
  | some (q, st') => if q.length = n ∧ allDat q = true then (match F q [] with
    | .ok (.dat d) _ => .ok (.dat d) st'
    | _ => .stuck) else .stuck
  | none => .stuck) st0
theorem je_callz {cls : Cl} {k n : Nat} {f : Addr} {fd : FuncData} {ps : List Str} {x : Str} {p : Pos} {F : FS} (G : FnOk X.prog X.w X.K X.mg X.base (L2.CX X.prog X.w) k f fd ps (spF cls n F)) (hr : Room k X.A) (hm : X.mg x = some (.ref f)) (hk : PySem.W.keepIn X.K (.ref f) = true)
    (hb : Binds X.K fd ps []) (tk : Takes X W) (ha : JA X N W (e :: es) mr) (hg : Gl X x := by rfl) (hdb : (x == ("__debug__" : Str)) = false := by decide)
    (he : starEach (e :: es) X.env = (false, eval e X.env) :: starEach es X.env := by rfl) (hpl : (backTo pos (starEach es X.env)).any (·.1) = false := by rfl) : JE X N W (.Call (.Name x p) (e :: es) [] pos) (mFnz n F mr) := by
  refine PE.weak (pe_callS (E := WE W) G hr hg hm hk hb (fun σ => passAt tk σ) ha hdb he hpl) fun σ H Q ⟨L, as1, st, rel, h⟩ => ?_
  refine sem_mono (fin_bind (P1 := VRels) rel h) fun vs H1 ⟨L3, as3, s3, rv3, r3, v3, x3, f3⟩ => ?_
  cases e1 : escAll rv3 s3 with
  | none => rw [e1] at f3; exact f3.elim
  | some pq =>
    obtain ⟨q, s4⟩ := pq
    rw [e1] at f3
    dsimp only at f3
    by_cases hl : q.length = n ∧ allDat q = true
    · rw [if_pos hl] at f3
      obtain ⟨L4, r4, x4, v4, n4⟩ := Rel.escAll r3 v3 e1
      have f4 := Fin.from f3 x4
      refine ⟨by rw [v4.length]; exact hl.1, [], L4, q, [], ⟨r4.live, r4.nt⟩, v4.dats0 hl.2, grel_nil, ?_⟩
      cases e2 : F q [] with
      | stuck => rw [e2] at f4; exact f4.elim
      | exc c gs' => rw [e2] at f4; exact f4.elim
      | ok r gs' =>
        rw [e2] at f4
        cases r with
        | bor i => exact f4.elim
        | hdl j => exact f4.elim
        | dat d =>
          intro v H' L' as' sp _ vr
          exact fin_dat r4 f4 (fun p o hp => sp.frame p o hp (by simp)) (At.mono (mask_less sp.sub) vr)
    · rw [if_neg hl] at f3
      exact f3.elim
end
end JL
/-! J63: loops over a dict with tuple keys; the dict is locked while the body runs. -/
namespace JL
open PySem PySem.Spec PyProof.Rows L2
@[simp] def keyD : Key → PyData
  | .inl i => .int i
  | .inr x => .str x
def tupK (ks : List Key) : PyData := .tuple (ks.map keyD)
theorem ats_keys {H : Hp} : ∀ ks : List Key, Ats H (ks.map kV) (ks.map keyD)
  | [] => .nil
  | .inl i :: r => .cons (.int i) (ats_keys r)
  | .inr x :: r => .cons (.str x) (ats_keys r)
theorem KAll.keys {κ : Type} {F : Hp} : ∀ {ws : List (κ × V)} {kvs : List (κ × PyData)}, KAll F ws kvs → ws.map (·.1) = kvs.map (·.1)
  | _, _, .nil => rfl
  | _, _, .cons _ r => by rw [List.map_cons, List.map_cons, KAll.keys r]
section
variable {N : Ent} {W : WX} {L : List Addr} {as1 : List (List Addr)} {st : ST} {σ : L2.St} {H H' : Hp} {i g : Nat}
theorem GOk.recl {cls cls' : Cl} {F : Hp} {fp : List Addr} {go : GO} (hf : cls'.f = cls.f) (hz : ∀ kvs, go = .dz kvs → ∀ a ∈ fp, cls'.fz a = cls.fz a) (h : GOk cls F H fp go) : GOk cls' F H fp go := by
  obtain ⟨f, fz⟩ := cls
  obtain ⟨f', fz'⟩ := cls'
  dsimp only at hf
  subst hf
  cases go with
  | dz kvs =>
    obtain ⟨a, o, ws, rfl, h1, h2, h3⟩ := h
    exact ⟨a, o, ws, rfl, h1, (hz kvs rfl a (by simp)).trans h2, h3⟩
  | exn c => exact h
  | tpl ns => exact h
  | tab q => exact h
  | drw ns c => exact h
  | acc ds => exact h
  | dk kvs => exact h
  | dt kvs => exact h
  | ins fs => exact h
  | dl kvs => exact h
  | dn kvs => exact h
  | d0 d => exact h
theorem Rel.recl (r : Rel N L as1 st σ H) (cls' : Cl) (hf : cls'.f = N.cls.f) (hz : ∀ (j : Nat) (kvs : List (List Key × PyData)) (fp : List Addr), st.gs[j]? = some (GO.dz kvs) → as1[j]? = some fp → ∀ a ∈ fp, cls'.fz a = N.cls.fz a) : Rel ⟨N.as0, N.L0, N.H0, cls'⟩ L as1 st σ H :=
  { len := r.len, l0 := r.l0, sub := r.sub, new := r.new, live := r.live, frame := r.frame, dat := r.dat, own := r.own, owd := r.owd, hdl := r.hdl,
    g := ⟨r.g.glen, fun j go fp e f => (r.g.gok j go fp e f).recl hf fun kvs ez a ha => hz j kvs fp (ez ▸ e) f a ha, r.g.gin, r.g.gnd⟩,
    gnew := r.gnew, hd := r.hd, nt := r.nt, ent := r.ent }
/-- the dict at d is locked -/
def Ent.lk (N : Ent) (d : Addr) (o : HO) : Ent := ⟨N.as0, N.L0, N.H0, ⟨N.cls.f, fun a => if a = d then some o else N.cls.fz a⟩⟩
theorem apart_at {l : List (List Addr)} {j k : Nat} {d : Addr} {fp : List Addr} (nd : l.flatten.Nodup) (h1 : l[j]? = some [d]) (h2 : l[k]? = some fp) (n : k ≠ j) : ∀ a ∈ fp, a ≠ d := fun a ha z => by
  subst z
  exact nodup_flatten_apart nd h2 h1 n ha (by simp)
theorem Rel.lock (r : Rel N L as1 st σ H) {kvs : List (List Key × PyData)} {d : Addr} {ws : List (List Key × V)} (f : as1[g]? = some [d]) (e : st.gs[g]? = some (.dt kvs)) (ka : KAll (mask H L) ws kvs) (od : Obj) :
    Rel (N.lk d (.frz od (.dT ws))) L as1 { st with gs := st.gs.set g (.dz kvs) } σ (upd H d (.frz od (.dT ws))) ∧ Ext L as1 H L as1 (upd H d (.frz od (.dT ws))) := by
  have r1 : Rel (N.lk d (.frz od (.dT ws))) L as1 st σ H := r.recl _ rfl fun j kvs' fp e1 f1 a ha => by
    have nj : j ≠ g := fun z => by subst z; rw [e] at e1; cases e1
    exact if_neg (apart_at r.g.gnd f f1 nj a ha)
  exact r1.mutG f ⟨d, od, ws, rfl, upd_same, if_pos rfl, ka⟩
theorem Rel.unlock {d : Addr} {od : Obj} {ws : List (List Key × V)} (r : Rel (N.lk d (.frz od (.dT ws))) L as1 st σ H) {kvs : List (List Key × PyData)} (f : as1[g]? = some [d]) (e : st.gs[g]? = some (.dz kvs)) (ka : KAll (mask H L) ws kvs) :
    Rel N L as1 { st with gs := st.gs.set g (.dt kvs) } σ (upd H d (.dT ws)) ∧ Ext L as1 H L as1 (upd H d (.dT ws)) := by
  obtain ⟨r1, x1⟩ := r.mutG (go := .dt kvs) f ⟨d, ws, rfl, upd_same, ka⟩
  refine ⟨r1.recl N.cls rfl fun j kvs' fp e1 f1 a ha => ?_, x1⟩
  have nj : j ≠ g := fun z => by
    subst z
    have := (set_get e1)
    rcases this with ⟨_, z, _⟩ | ⟨z, _⟩
    · cases z
    · exact z rfl
  exact (if_neg (apart_at r.g.gnd f f1 nj a ha)).symm
/-- what is known of the locked dict -/
theorem Rel.locked {d : Addr} {od : Obj} {ws : List (List Key × V)} (r : Rel (N.lk d (.frz od (.dT ws))) L as1 st σ H) {kvs : List (List Key × PyData)} {fp : List Addr} (f : as1[g]? = some (d :: fp)) (e : st.gs[g]? = some (.dz kvs)) :
    as1[g]? = some [d] ∧ H d = some (.frz od (.dT ws)) ∧ KAll (mask H L) ws kvs := by
  obtain ⟨a, o, ws', ef, h1, h2, h3⟩ := r.g.gok g _ _ e f
  cases ef
  have h2 : (if d = d then some (HO.frz od (.dT ws)) else N.cls.fz d) = some (.frz o (.dT ws')) := h2
  rw [if_pos rfl] at h2
  cases h2
  exact ⟨f, h1, h3⟩
end
/-- the loop: the dict stays locked -/
def loopK (g : Nat) (put : PyData → M Flw) (body : M Flw) : List PyData → M Flw
  | [] => mNx
  | a :: r => fun st => match put a st with
    | .ok .nx st1 => (match body st1 with
      | .ok .nx st2 => (match st2.gs[g]? with
        | some (.dz _) => loopK g put body r st2
        | _ => .stuck)
      | _ => .stuck)
    | _ => .stuck
@[simp] def finK (g : Nat) : R Flw → R Flw
  | .ok .nx st' => (match st'.gs[g]? with
    | some (.dz kvs') => .ok .nx { st' with gs := st'.gs.set g (.dt kvs') }
    | _ => .stuck)
  | _ => .stuck
@[simp] def mForK (i j : Nat) (body : M Flw) (st : ST) : R Flw := match st.sl[j]? with
  | some (.hdl g) => (match st.gs[g]? with
    | some (.dt kvs) => finK g (loopK g (putDat i) body (kvs.map fun p => tupK p.1) { st with gs := st.gs.set g (.dz kvs) })
    | _ => .stuck)
  | _ => .stuck
section
variable {X : Cx} {N : Ent} {W : WX} {ss : List Stmt} {m1 : M Flw} {pos : Pos}
def exK (N : Ent) (W : WX) (m : M Flw) : TS := fun D σ H => ∃ d o, semS (N.lk d o) W m D σ H
theorem pss_ex {ss : List Stmt} {m : M Flw} (h : ∀ d o, JSs X (N.lk d o) W ss m) : PSs X ss (exK N W m) := ⟨fun pins s σ H D I ⟨d, o, q⟩ => (h d o).run pins s σ H D I q⟩
theorem js_forK {i j : Nat} {x y : Str} {px py : Pos} (hN : X.N.Nodup) (hp : PassesOwn (model X.prog X.w) X.A X.env X.xe) (hb : ∀ d o, JSs X (N.lk d o) W ss m1) (hc : X.calm = true := by rfl) (hi : X.N[i]? = some x := by rfl) (hx : Loc X.env.scope x := by first | exact Or.inl rfl | exact Or.inr rfl)
    (hf : X.fn x = true ∨ X.env.scope.names.lookup x = some .local := by first | exact .inl rfl | exact .inr rfl | assumption)
    (hj : X.N[j]? = some y := by rfl) (hv : Vis X.env.scope y := by first | exact Or.inl rfl | exact Or.inr (Or.inl rfl) | exact Or.inr (Or.inr rfl)) (hd : (y == ("__debug__" : Str)) = false := by decide) (hcd : (y == ("__classdict__" : Str)) = false := by decide)
    (hs : ∀ z, foldedSetIterable (.Name y py) X.env z = pure z := by intro _; rfl) : JS X N W (.For (.Name x px) (.Name y py) ss [] pos) (mForK i j m1) := by
  refine PS.weak (ps_lock (ps_for hp hc (pi_keys (pe_var hj hv hd hcd)) (pg_name hN hi hx hf) (pss_ex (N := N) (W := W) hb) hs)) fun D σ H ⟨L, as1, st, r, h⟩ => ?_
  unfold mForK at h
  split at h
  · rename_i g e1
    split at h
    · rename_i kvs e2
      obtain ⟨d, fp, q1, q2⟩ := r.hdl j g e1
      obtain ⟨a, ws, ef, h1, h2⟩ := r.g.gok g _ _ e2 q1
      cases ef
      refine ⟨d, _, h1, True.intro, fun od => ?_⟩
      refine ⟨.ref d, q2, d, od, rfl, .inr ⟨ws, upd_same, ?_⟩⟩
      obtain ⟨r0, x0⟩ := r.lock q1 e2 h2 od
      have hkeys := h2.keys
      obtain ⟨its, hits⟩ : ∃ its, its = kvs.map fun p => tupK p.1 := ⟨_, rfl⟩
      rw [← hits] at h
      have hlen : its.length = ws.length := by
        have := congrArg List.length hkeys
        rw [List.length_map, List.length_map] at this
        rw [hits, List.length_map, this]
      have hget : ∀ k : Nat, its[k]? = (ws[k]?).map fun (p : List Key × V) => tupK p.1 := fun k => by
        have := congrArg (fun l => l[k]?) hkeys
        simp only [List.getElem?_map] at this
        rw [hits, List.getElem?_map]
        have e3 := congrArg (Option.map tupK) this
        rw [Option.map_map, Option.map_map] at e3
        exact e3.symm
      have gl : g < st.gs.length := (List.getElem?_eq_some_iff.mp e2).1
      refine ⟨fun k m σ H => m = its.length - k ∧ k ≤ its.length ∧ ∃ L as st, Rel (N.lk d (.frz od (.dT ws))) L as st σ H ∧ (∃ kvs', st.gs[g]? = some (.dz kvs')) ∧ (∃ fp, as[g]? = some (d :: fp)) ∧ FinS N W L as H (finK g (loopK g (putDat i) m1 (its.drop k) st)) D,
        ⟨_, rfl, Nat.zero_le _, L, as1, _, r0, ⟨kvs, List.getElem?_set_self gl⟩, ⟨_, q1⟩, FinS.from h x0⟩, ?_⟩
      rintro k m σ H ⟨rfl, hk, L, as, st, r, ⟨kvs', e4⟩, ⟨fp, f4⟩, h⟩
      obtain ⟨f5, hd5, ka⟩ := r.locked f4 e4
      by_cases hlt : k < its.length
      · right
        have ed : its.drop k = its[k] :: its.drop (k + 1) := List.drop_eq_getElem_cons hlt
        rw [ed] at h
        refine ⟨⟨hd5, by rw [← hlen]; exact hlt⟩, fun σ' H' => ∃ L as st, Rel (N.lk d (.frz od (.dT ws))) L as st σ' H' ∧ (∃ kvs', st.gs[g]? = some (.dz kvs')) ∧ (∃ fp, as[g]? = some (d :: fp)) ∧ FinS N W L as H' (finK g (loopK g (putDat i) m1 (its.drop (k + 1)) st)) D, fun σ' H' q => ⟨_, by omega, rfl, hlt, q⟩, ?_⟩
        rintro x H' ⟨rfl, key, v, q, ek, rfl, hq⟩
        have eit : its[k] = tupK key := by
          have := hget k
          rw [List.getElem?_eq_getElem hlt, ek] at this
          exact Option.some.inj this
        have hat : At (mask H' L) (.ref q) (tupK key) := .tup (mask_of hq fun z => r.nt q z _ hq) (ats_keys key)
        rw [eit] at h
        simp only [loopK] at h
        cases e5 : putDat i (tupK key) st with
        | stuck => rw [e5] at h; exact h.elim
        | exc c s1 => rw [e5] at h; exact h.elim
        | ok fl s1 =>
          cases fl with
          | ret v => rw [e5] at h; exact h.elim
          | brk => rw [e5] at h; exact h.elim
          | cnt => rw [e5] at h; exact h.elim
          | nx =>
            rw [e5] at h
            dsimp only at h
            unfold putDat at e5
            split at e5
            · rename_i hl
              cases e5
              have r6 := r.setDat (i := i) (by rw [← r.len]; exact hl) hat
              refine ⟨d, _, L, as, _, r6, ?_⟩
              cases e6 : m1 { st with sl := st.sl.set i (.dat (tupK key)) } with
              | stuck => rw [e6] at h; exact h.elim
              | exc c s2 => rw [e6] at h; exact h.elim
              | ok fl s2 =>
                rw [e6] at h
                cases fl with
                | ret v => exact h.elim
                | brk => exact h.elim
                | cnt => exact h.elim
                | nx =>
                  dsimp only at h
                  intro L3 as3 σ3 H3 r3 x3
                  split at h
                  · rename_i kvs2 e7
                    obtain ⟨fp3, f7⟩ := x3.pre.own g d fp f4
                    exact ⟨L3, as3, s2, r3, ⟨kvs2, e7⟩, ⟨fp3, f7⟩, FinS.from h x3⟩
                  · exact h.elim
            · cases e5
      · left
        have e : k = its.length := by omega
        subst e
        rw [List.drop_length] at h
        refine ⟨⟨hd5, by rw [hlen]; exact Nat.le_refl _⟩, hd5, ?_⟩
        have h : FinS N W L as H (finK g (.ok .nx st)) D := h
        unfold finK at h
        dsimp only at h
        rw [e4] at h
        obtain ⟨r7, x7⟩ := r.unlock f5 e4 ka
        exact h L as σ _ r7 x7
    · exact h.elim
  · exact h.elim
/-- d[k], d locked -/
@[simp] def mDgetZ (md mk : M RV) (st0 : ST) : R RV := (md.bind fun a => mk.bind fun b => fun st => match a with
  | .hdl j => (match st.gs[j]?, (st.look b).bind tkeyOf with
    | some (.dz kvs), some k => outO (valD kvs k) st
    | _, _ => .stuck)
  | _ => .stuck) st0
theorem je_dgetZ {o b : Expr} {ma mb : M RV} (ho : JE X N W o ma) (hi : JE X N W b mb) (hu : X.A.units + 65 < cLine) (hs : NoSl b := by exact fun _ _ => rfl) : JE X N W (.Subscript o b pos) (mDgetZ ma mb) := by
  refine PE.weak (pe_dget (by omega) ho hi hs) fun σ H Q ⟨L, as1, st, rel, h⟩ => ?_
  refine sem_mono (fin_bind (P1 := VRel) rel h) fun v H1 ⟨L3, as3, s3, rv3, r3, v3, x3, f3⟩ => ?_
  refine sem_mono (fin_bind (P1 := VRel) r3 f3) fun w H2 ⟨L6, as6, s6, rv6, r6, v6, x6, f6⟩ => ?_
  have v3' := v3.ext x6
  cases rv3 with
  | dat d => exact f6.elim
  | bor i => exact f6.elim
  | hdl j =>
    obtain ⟨p, fp, hp, rfl⟩ := v3'
    dsimp only at f6
    split at f6
    · rename_i kvs k e1 e2
      obtain ⟨q, o, ws, ef, hq, _, hall⟩ := r6.g.gok j _ _ e1 hp
      cases ef
      cases e3 : s6.look rv6 with
      | none => rw [e3] at e2; cases e2
      | some d =>
        rw [e3] at e2
        simp only [Option.bind_some] at e2
        cases e4 : valD kvs k with
        | none => rw [e4] at f6; exact f6.elim
        | some g =>
          rw [e4] at f6
          obtain ⟨y, y1, y2⟩ := hall.val e4
          obtain ⟨bb, rfl, hb⟩ := (r6.look v6 e3).tkey e2
          refine ⟨p, y, rfl, ?_, fin_dat r6 f6 (Same.refl _) y2⟩
          rw [← y1]
          exact .inr ⟨ws, k, bb, .inr ⟨o, hq⟩, rfl, hb, rfl⟩
    · exact f6.elim
end
end JL
/-! J64: tuple + tuple, sorted of a tuple of ints. -/
namespace JL
open PySem PySem.Spec PyProof.Rows L2
section
variable {prog : Program} {w : World} {A : Around} {E : Value → Shared → Prop} {s : Shared}
theorem gather_tup {t : Addr} {vs : List Value} {Q : List Value → Shared → Prop} (ht : IsTup s.heap t vs.toArray) (hz : vs.length ≤ sizeLine)
    (q : Q vs { s with heap := (s.heap.push (seqObj "list" #[] 0)).update s.heap.objs.size (Obj.mapSeq (· ++ vs.toArray)) }) : wpAny (model prog w) A (collect (.ref t)) Q E s := by
  obtain ⟨ob, h1, h2, m, h3⟩ := id ht
  have new0 : (s.heap.push (seqObj "list" #[] 0)).get? s.heap.objs.size = some (seqObj "list" #[] 0) := Heap.get?_push_size _ rfl
  have old1 : (s.heap.push (seqObj "list" #[] 0)).get? t = some ob := Heap.get?_push_of_some _ h1
  unfold collect
  apply wpAny_bind
  apply wpAny_runValue
  apply codeAny_builtin entry_proto_collect'
  show wpAny _ _ (do again (.builtin "list.__iadd__" ⟨[← newList [], .ref t], []⟩)) _ _ s
  apply wpAny_bind
  refine wpAny_newList ?_ (Nat.zero_le _)
  refine wpAny_pure ⟨Code.quiet_builtin _ (by decide +kernel), ?_⟩
  apply codeAny_builtin entry_list_iadd'
  show wpAny _ _ (Builtin.List.listExtendWith (.ref s.heap.objs.size) (.ref t) (.ref s.heap.objs.size)) _ _ _
  unfold Builtin.List.listExtendWith
  apply wpAny_bind
  refine wpAny_typeOf (T := "tuple") ⟨ob, old1, h2⟩ ?_
  rw [if_pos (by rw [show (Value.type "tuple" == Value.type "tuple") = true from rfl]; simp)]
  apply wpAny_bind
  refine listItems_at old1 h3 ?_
  apply wpAny_bind
  refine listItems_at (xs := #[]) (n := 0) new0 rfl ?_
  rw [if_neg (by simp)]
  apply wpAny_bind
  refine listUpdate_at (xs := #[]) (n := 0) new0 rfl ?_ (Nat.zero_le _) ?_
  · apply wpAny_pure
    show wpAny (model prog w) A (load s.heap.objs.size >>= _) Q E _
    apply wpAny_bind
    refine wpAny_load (get?_update_seq new0 _) ?_
    have e : ((#[] : Array Value) ++ vs.toArray).toList = vs := by simp
    show wpAny _ _ (pure ((#[] : Array Value) ++ vs.toArray).toList) Q E _
    rw [e]
    exact wpAny_pure q
  · show (#[] ++ vs.toArray).size ≤ sizeLine + 1
    simp only [Array.size_append, List.size_toArray, List.length_nil]
    omega
theorem sort_tup {t : Addr} {vs : List Value} {ns : List Int} {Q : Value → Shared → Prop} (ht : IsTup s.heap t vs.toArray) (hI : IntsAre vs ns) (h64 : vs.length < 64)
    (q : ∀ (out : Array Value) (ns' : List Int), IntsAre out.toList ns' → ns'.Perm ns → ns'.Pairwise (· ≤ ·) → Q (.ref (s.heap.objs.size + 1)) { s with heap := sortedAll s.heap vs out }) :
    wpAny (model prog w) A (call (.builtin "sorted") [.ref t]) Q E s := by
  obtain ⟨h1, eh1⟩ : ∃ h1, h1 = (s.heap.push (seqObj "list" #[] 0)).update s.heap.objs.size (Obj.mapSeq (· ++ vs.toArray)) := ⟨_, rfl⟩
  have z1 : h1.objs.size = s.heap.objs.size + 1 := by rw [eh1, Heap.size_update, size_push']
  have at1 : (h1.push (seqObj "list" vs.toArray 0)).get? (s.heap.objs.size + 1) = some (seqObj "list" vs.toArray 0) := by
    rw [← z1]
    exact Heap.get?_push_size _ rfl
  apply Calls.call_function_entry kind_sorted plain_sorted entry_sorted (args_sorted1 _)
  unfold Builtin.«sorted»
  apply wpAny_bind
  refine wpAny_pure ?_
  apply wpAny_bind
  have hz : vs.length ≤ sizeLine := by rw [sizeLine_eq]; omega
  refine gather_tup ht hz ?_
  rw [← eh1]
  apply wpAny_bind
  refine wpAny_newList ?_ hz
  show wpAny _ _ _ _ _ { s with heap := h1.push (seqObj "list" vs.toArray 0) }
  rw [z1]
  apply wpAny_bind
  apply wpAny_holding
  refine wpAny_call_entry slot_list_sort ⟨_, at1, rfl⟩ entry_list_sort ?_ (args_list_sort _)
  refine list_sort_tree at1 hI h64 fun out ns' b1 b2 b3 => ⟨_, rfl, wpAny_pure ⟨_, rfl, ?_⟩⟩
  have := q out ns' b1 b2 b3
  unfold sortedAll at this
  rw [← eh1] at this
  exact this
end
section
variable {X : Cx}
def rSortedT (K : PySem.W.Frag) : List V → Hp → VK → Prop := fun vs H Q => ∃ (a : Addr) (ns : List Int), vs = [V.ref a] ∧ SqT K H a (ns.map V.int) ∧ ns.length < 64 ∧
  ∀ (ns' : List Int) (p : Addr), ns'.Perm ns → ns'.Pairwise (· ≤ ·) → H p = none → Q (.ref p) (upd H p (.lst (ns'.map V.int)))
theorem cr_sortedT : CallR X (.builtin "sorted") (rSortedT X.K) := by
  intro pins s σ H vs us Q I r h
  obtain ⟨a, ns, rfl, hs, h64, q⟩ := h
  obtain ⟨its, rv, hl, _⟩ := I.tuple hs
  rw [Vals.ref1 r]
  have hi := rv.ints
  refine sort_tup hl hi (by rw [hi.length]; exact h64) fun out ns' h1 h2 h3 => ?_
  obtain ⟨ep, he'⟩ := sortedAll_at s.heap its out
  have hz : (ns'.map V.int).length ≤ sizeLine := by rw [List.length_map, h2.length_eq, sizeLine_eq]; omega
  have I1 := I.laid (t' := s.toks) (fun _ _ => sortedAll_old) (Nat.le_succ _) (show ObjOk X.prog X.w (upd H (s.heap.objs.size + 1) (.lst (ns'.map V.int))) (sortedAll s.heap its out) (s.heap.objs.size + 1) (.lst (ns'.map V.int)) from ⟨hz, out.toList, ep, vals_of_ints h1, he'⟩)
  exact ⟨.ref _, _, I1, rfl, q ns' _ h2 h3 (I.hok.fresh (Nat.le_succ _))⟩
end
@[simp] def sortTD : List PyData → Option PyData
  | [.tuple xs] => (intsOf xs).bind fun ns => if ns.length < 64 then some (.list ((sortI ns).map .int)) else none
  | _ => none
theorem pure_sortedT {K : PySem.W.Frag} : PureC (rSortedT K) sortTD := by
  intro xs H L Q ds g live h he k
  unfold sortTD at he
  split at he
  · rename_i zs
    cases e1 : intsOf zs with
    | none => rw [e1] at he; cases he
    | some ns =>
      rw [e1] at he
      simp only [Option.bind_some] at he
      split at he
      · rename_i hl
        cases he
        obtain ⟨v, rfl, hv⟩ := Paired.one h
        obtain ⟨a, vs, rfl, ha, hs⟩ := hv.tuple
        rw [intsOf_eq e1] at hs
        rw [hs.ints] at ha
        refine ⟨a, ns, rfl, SqT.of ha, hl, fun ns' p h1 h2 np => ?_⟩
        have e : ns' = sortI ns := sorted_unique (h1.trans (sortI_perm ns).symm) h2 (sortI_sorted ns)
        rw [e]
        exact k _ _ (same_new np) (at_new live np (ats_ints _))
      · cases he
  · cases he
@[simp] def catTD : PyData → PyData → Option PyData
  | .tuple xs, .tuple ys => if xs.length + ys.length ≤ maxLen then some (.tuple (xs ++ ys)) else none
  | _, _ => none
theorem Rdb.at_tup {H : Hp} {L : List Addr} {v : V} {ds : List PyData} (h : Rdb H L v (.tuple ds)) : At (mask H L) v (.tuple ds) := by
  cases h with
  | «at» h => exact h
theorem pure_catT {K : PySem.W.Frag} : Pure2 (rCatA K) catTD := by
  intro x y H L Q d e g live hx hy he k
  unfold catTD at he
  split at he
  · rename_i xs ys
    split at he
    · rename_i hl
      cases he
      have hx0 := hx
      have hy0 := hy
      obtain ⟨a, vs, rfl, ha, hs⟩ := hx.tuple
      obtain ⟨b, us, rfl, hb, ht⟩ := hy.tuple
      have l1 := hs.length
      have l2 := ht.length
      refine ⟨a, b, vs, us, rfl, rfl, SqT.of ha, SqT.of hb, by rw [l1, l2]; exact small_max hl, fun z => ?_, fun _ z => ?_, fun _ _ p np => ?_⟩
      · subst z
        have : xs = [] := List.eq_nil_of_length_eq_zero l1.symm
        subst this
        exact k _ _ (Same.refl _) hy0.at_tup
      · subst z
        have : ys = [] := List.eq_nil_of_length_eq_zero l2.symm
        subst this
        have e : PyData.tuple xs = .tuple (xs ++ []) := by rw [List.append_nil]
        exact k _ _ (Same.refl _) (e ▸ hx0.at_tup)
      · exact k _ _ (same_new np) (.tup (mask_of upd_same fun z => live p z np) ((hs.append ht).mono (mask_grow (same_new np))))
    · cases he
  · cases he
end JL
/-! J65: dicts of lists: new, setdefault, append, frozen. -/
namespace JL
open PySem PySem.Spec PyProof.Rows L2
@[simp] def lkL : List (List Key × List PyData) → List Key → Option (List PyData)
  | [], _ => none
  | (k, ds) :: r, k' => if k = k' then some ds else lkL r k'
@[simp] def setL (k : List Key) (ds : List PyData) : List (List Key × List PyData) → List (List Key × List PyData)
  | [] => []
  | (k', es) :: r => if k' = k then (k', ds) :: r else (k', es) :: setL k ds r
theorem LAll.get {F H : Hp} {k : List Key} {ds : List PyData} : ∀ {ws : List (List Key × V)} {kvs : List (List Key × List PyData)} {ps : List Addr}, LAll F H ws kvs ps → lkL kvs k = some ds → ∃ p vs, valV ws k = some (.ref p) ∧ p ∈ ps ∧ H p = some (.lst vs) ∧ Ats F vs ds
  | _, _, _, .nil, e => by cases e
  | _, _, _, .cons (k := k') (p := p) (vs := vs) h1 h2 r, e => by
    by_cases c : k' = k
    · simp only [lkL, if_pos c] at e
      cases e
      exact ⟨p, vs, valV_pos c, List.mem_cons_self, h1, h2⟩
    · simp only [lkL, if_neg c] at e
      obtain ⟨q, us, e1, e2, e3⟩ := LAll.get r e
      exact ⟨q, us, by rw [valV_neg c]; exact e1, List.mem_cons_of_mem _ e2, e3⟩
theorem LAll.none {F H : Hp} {k : List Key} : ∀ {ws : List (List Key × V)} {kvs : List (List Key × List PyData)} {ps : List Addr}, LAll F H ws kvs ps → lkL kvs k = none → valV ws k = none
  | _, _, _, .nil, e => rfl
  | _, _, _, .cons (k := k') (p := p) (vs := vs) h1 h2 r, e => by
    by_cases c : k' = k
    · simp only [lkL, if_pos c] at e
      cases e
    · simp only [lkL, if_neg c] at e
      rw [valV_neg c]
      exact LAll.none r e
theorem LAll.len {F H : Hp} : ∀ {ws : List (List Key × V)} {kvs : List (List Key × List PyData)} {ps : List Addr}, LAll F H ws kvs ps → ws.length = kvs.length
  | _, _, _, .nil => rfl
  | _, _, _, .cons _ _ r => by rw [List.length_cons, List.length_cons, LAll.len r]
theorem LAll.lv {F H : Hp} : ∀ {ws : List (List Key × V)} {kvs : List (List Key × List PyData)} {ps : List Addr}, LAll F H ws kvs ps → ∀ p ∈ ps, ∃ vs, H p = some (.lst vs)
  | _, _, _, .nil, p, h => by cases h
  | _, _, _, .cons h1 _ r, p, h => by
    rcases List.mem_cons.mp h with rfl | h
    · exact ⟨_, h1⟩
    · exact LAll.lv r p h
theorem LAll.snoc {F H : Hp} {k : List Key} {p : Addr} {vs : List V} {ds : List PyData} (hp : H p = some (.lst vs)) (hs : Ats F vs ds) : ∀ {ws : List (List Key × V)} {kvs : List (List Key × List PyData)} {ps : List Addr}, LAll F H ws kvs ps → LAll F H (ws ++ [(k, .ref p)]) (kvs ++ [(k, ds)]) (ps ++ [p])
  | _, _, _, .nil => .cons hp hs .nil
  | _, _, _, .cons h1 h2 r => .cons h1 h2 (LAll.snoc hp hs r)
theorem LAll.setL {F H : Hp} {k : List Key} {p : Addr} {vs : List V} {ds ds' : List PyData} (hv : Ats F vs ds') : ∀ {ws : List (List Key × V)} {kvs : List (List Key × List PyData)} {ps : List Addr}, LAll F H ws kvs ps → ps.Nodup → lkL kvs k = some ds → valV ws k = some (.ref p) → p ∈ ps ∧ LAll F (upd H p (.lst vs)) ws (JL.setL k ds' kvs) ps
  | _, _, _, .nil, _, e, _ => by cases e
  | _, _, _, .cons (k := k') (p := q) (vs := us) h1 h2 r, nd, e, e2 => by
    obtain ⟨n1, n2⟩ := List.nodup_cons.mp nd
    by_cases c : k' = k
    · rw [valV_pos c] at e2
      cases e2
      refine ⟨List.mem_cons_self, ?_⟩
      simp only [JL.setL, if_pos c]
      exact .cons upd_same hv (r.mono (Same.refl _) fun a ha o ho => by rw [upd_ne (fun z => n1 (by rw [← z]; exact ha))]; exact ho)
    · simp only [lkL, if_neg c] at e
      rw [valV_neg c] at e2
      obtain ⟨m1, m2⟩ := LAll.setL hv r n2 e e2
      refine ⟨List.mem_cons_of_mem _ m1, ?_⟩
      simp only [JL.setL, if_neg c]
      exact .cons (by rw [upd_ne (fun z => n1 (by rw [z]; exact m1))]; exact h1) h2 m2
section
variable {N : Ent} {W : WX} {L : List Addr} {as1 : List (List Addr)} {st : ST} {σ : L2.St} {H H' : Hp} {i g : Nat}
/-- the dict of lists at a handle -/
structure DlAt (N : Ent) (L : List Addr) (as1 : List (List Addr)) (H : Hp) (g : Nat) (kvs : List (List Key × List PyData)) (a : Addr) (ws : List (List Key × V)) (ps : List Addr) : Prop where
  f : as1[g]? = some (a :: ps)
  h : H a = some (.dT ws)
  al : LAll (mask H L) H ws kvs ps
  nd : (a :: ps).Nodup
  inL : ∀ b ∈ a :: ps, b ∈ L
theorem Rel.dl (r : Rel N L as1 st σ H) {kvs : List (List Key × List PyData)} (e : st.sl[i]? = some (.hdl g)) (hg : st.gs[g]? = some (.dl kvs)) : ∃ a ws ps, σ[i]? = some (some (.ref a)) ∧ DlAt N L as1 H g kvs a ws ps := by
  obtain ⟨a, fp, ea, ev⟩ := r.hdl i g e
  obtain ⟨a', ws, ps, efp, h1, h2⟩ := r.g.gok g _ _ hg ea
  cases efp
  exact ⟨a, ws, fp, ev, ea, h1, h2, nodup_at r.g.gnd ea, r.g.gin _ (List.mem_of_getElem? ea)⟩
/-- a key comes to an empty list of its own -/
theorem Rel.dlNew (r : Rel N L as1 st σ H) {kvs : List (List Key × List PyData)} {a : Addr} {ws : List (List Key × V)} {ps : List Addr} (x : DlAt N L as1 H g kvs a ws ps) {k : List Key} {p : Addr} (np : H p = none) :
    Rel N ([p] ++ L) (as1.set g (a :: (ps ++ [p]))) { st with gs := st.gs.set g (.dl (kvs ++ [(k, [])])) } σ (upd (upd H p (.lst [])) a (.dT (ws ++ [(k, .ref p)]))) ∧
      Ext L as1 H ([p] ++ L) (as1.set g (a :: (ps ++ [p]))) (upd (upd H p (.lst [])) a (.dT (ws ++ [(k, .ref p)]))) := by
  obtain ⟨n1, n2⟩ := List.nodup_cons.mp x.nd
  have ha : a ∈ L := x.inL a List.mem_cons_self
  have pa : p ≠ a := fun z => by rw [z, x.h] at np; cases np
  have npa : ∀ b ∈ ps, b ≠ a := fun b hb z => n1 (by rw [← z]; exact hb)
  have pp : p ∉ ps := fun z => by
    obtain ⟨vs, h⟩ := x.al.lv p z
    rw [h] at np; cases np
  have sm : Same (mask H L) (mask (upd (upd H p (.lst [])) a (.dT (ws ++ [(k, .ref p)]))) ([p] ++ L)) := fun b o h => by
    obtain ⟨e, n⟩ := of_mask h
    have nb : b ≠ p := ne_of_none e np
    refine mask_of (by rw [upd_ne (fun z => n (by rw [z]; exact ha)), upd_ne nb]; exact e) fun z => ?_
    rcases List.mem_append.mp z with z | z
    · exact nb (by simpa using z)
    · exact n z
  have al1 : LAll (mask H L) (upd H p (.lst [])) ws kvs ps := x.al.mono (Same.refl _) fun b hb o ho => by rw [upd_ne (fun z => pp (by rw [← z]; exact hb))]; exact ho
  have al2 : LAll (mask H L) (upd H p (.lst [])) (ws ++ [(k, .ref p)]) (kvs ++ [(k, [])]) (ps ++ [p]) := al1.snoc upd_same .nil
  refine r.mutO (nw := [p]) (fp := ps) (fp' := ps ++ [p]) x.f (fun b hb => by rw [List.mem_singleton.mp hb]; exact np) ?_ ?_ ?_ ?_ ?_
  · refine List.nodup_cons.mpr ⟨fun z => ?_, List.nodup_append.mpr ⟨n2, by simp, fun b hb c hc z => ?_⟩⟩
    · rcases List.mem_append.mp z with z | z
      · exact n1 z
      · exact pa (List.mem_singleton.mp z).symm
    · rw [List.mem_singleton] at hc
      rw [hc] at z
      exact pp (by rw [← z]; exact hb)
  · intro b hb
    rcases List.mem_append.mp hb with z | z
    · exact .inl z
    · exact .inr z
  · intro b h1 h2
    rw [upd_ne (fun z => h1 (by rw [z]; exact List.mem_cons_self)), upd_ne (fun z => h2 (by simp [z]))]
  · intro b hb
    by_cases za : b = a
    · subst za; exact ⟨_, upd_same, fun _ z => nomatch z⟩
    · rw [upd_ne za]
      by_cases zp : b = p
      · subst zp; exact ⟨_, upd_same, fun _ z => nomatch z⟩
      · rw [upd_ne zp]
        rcases hb with hb | hb
        · rcases List.mem_cons.mp hb with z | hb
          · exact absurd z za
          · obtain ⟨vs, h⟩ := x.al.lv b hb
            exact ⟨_, h, fun _ z => nomatch z⟩
        · exact absurd (by simpa using hb) zp
  · refine ⟨a, _, _, rfl, upd_same, al2.mono sm fun b hb o ho => ?_⟩
    rcases List.mem_append.mp hb with z | z
    · rw [upd_ne (npa b z)]; exact ho
    · rw [upd_ne (fun y => pa (by rw [← y]; exact (List.mem_singleton.mp z).symm))]; exact ho
/-- a list of the dict is changed -/
theorem Rel.dlSet (r : Rel N L as1 st σ H) {kvs : List (List Key × List PyData)} {a : Addr} {ws : List (List Key × V)} {ps : List Addr} (x : DlAt N L as1 H g kvs a ws ps) {k : List Key} {p : Addr} {vs' : List V} {ds ds' : List PyData} (e1 : lkL kvs k = some ds) (e2 : valV ws k = some (.ref p)) (hv : Ats (mask H L) vs' ds') :
    Rel N ([] ++ L) (as1.set g (a :: ps)) { st with gs := st.gs.set g (.dl (setL k ds' kvs)) } σ (upd H p (.lst vs')) ∧ Ext L as1 H ([] ++ L) (as1.set g (a :: ps)) (upd H p (.lst vs')) := by
  obtain ⟨n1, n2⟩ := List.nodup_cons.mp x.nd
  obtain ⟨pp, q1⟩ := x.al.setL hv n2 e1 e2
  have pa : a ≠ p := fun z => n1 (by rw [z]; exact pp)
  have pL : p ∈ L := x.inL p (List.mem_cons_of_mem _ pp)
  refine r.mutO (nw := []) (fp := ps) (fp' := ps) x.f (fun b hb => absurd hb (by simp)) x.nd (fun b hb => .inl hb) (fun b h1 _ => upd_ne fun z => h1 (by rw [z]; exact List.mem_cons_of_mem _ pp)) ?_ ?_
  · intro b hb
    by_cases zp : b = p
    · subst zp; exact ⟨_, upd_same, fun _ z => nomatch z⟩
    · rw [upd_ne zp]
      rcases hb with hb | hb
      · rcases List.mem_cons.mp hb with rfl | hb
        · exact ⟨_, x.h, fun _ z => nomatch z⟩
        · obtain ⟨vs, h⟩ := x.al.lv b hb
          exact ⟨_, h, fun _ z => nomatch z⟩
      · exact absurd hb (by simp)
  · exact ⟨a, ws, ps, rfl, by rw [upd_ne pa]; exact x.h, q1.mono (mask_upd pL) fun b _ o ho => ho⟩
def frzL (kvs : List (List Key × List PyData)) : List (List Key × PyData) := kvs.map fun kv => (kv.1, .list kv.2)
theorem LAll.frz {F F' H : Hp} (s : Same F F') : ∀ {ws : List (List Key × V)} {kvs : List (List Key × List PyData)} {ps : List Addr}, LAll F H ws kvs ps → (∀ p ∈ ps, ∀ o, H p = some o → F' p = some o) → KAll F' ws (frzL kvs)
  | _, _, _, .nil, _ => .nil
  | _, _, _, .cons h1 h2 r, t => .cons (.lst (t _ List.mem_cons_self _ h1) (h2.mono s)) (LAll.frz s r fun p hp => t p (List.mem_cons_of_mem _ hp))
theorem flatten_set_sub {α : Type} {a b : α} {ps : List α} : ∀ {as : List (List α)} {g : Nat}, as[g]? = some (a :: ps) → b ∈ (as.set g [a]).flatten → b ∈ as.flatten ∧ (as.flatten.Nodup → b ∉ ps)
  | [], _, h, _ => by simp at h
  | x :: xs, 0, h, hb => by
    rw [List.getElem?_cons_zero] at h
    cases h
    rw [List.set_cons_zero, List.flatten_cons, List.mem_append] at hb
    rw [List.flatten_cons]
    rcases hb with hb | hb
    · rw [List.mem_singleton] at hb
      subst hb
      exact ⟨by simp, fun nd => (List.nodup_cons.mp (List.nodup_append.mp nd).1).1⟩
    · refine ⟨List.mem_append_right _ hb, fun nd z => ?_⟩
      exact (List.nodup_append.mp nd).2.2 b (List.mem_cons_of_mem _ z) b hb rfl
  | x :: xs, g + 1, h, hb => by
    rw [List.getElem?_cons_succ] at h
    rw [List.set_cons_succ, List.flatten_cons, List.mem_append] at hb
    rw [List.flatten_cons]
    rcases hb with hb | hb
    · refine ⟨List.mem_append_left _ hb, fun nd z => ?_⟩
      exact (List.nodup_append.mp nd).2.2 b hb b (List.mem_flatten.mpr ⟨_, List.mem_of_getElem? h, List.mem_cons_of_mem _ z⟩) rfl
    · obtain ⟨m1, m2⟩ := flatten_set_sub h hb
      exact ⟨List.mem_append_right _ m1, fun nd => m2 (List.nodup_append.mp nd).2.1⟩
/-- the lists of the dict are given up -/
theorem Rel.dlFrz (r : Rel N L as1 st σ H) (h0 : N.as0 = []) {kvs : List (List Key × List PyData)} {a : Addr} {ws : List (List Key × V)} {ps : List Addr} (x : DlAt N L as1 H g kvs a ws ps) :
    Rel N (L.filter fun b => decide (b ∉ ps)) (as1.set g [a]) { st with gs := st.gs.set g (.dt (frzL kvs)) } σ H ∧ Ext L as1 H (L.filter fun b => decide (b ∉ ps)) (as1.set g [a]) H := by
  have hflat : ∀ b ∈ a :: ps, b ∈ as1.flatten := fun b hb => List.mem_flatten.mpr ⟨_, List.mem_of_getElem? x.f, hb⟩
  have hnew : ∀ b ∈ as1.flatten, N.H0 b = none := fun b hb => by
    rcases r.gnew b hb with z | z
    · rw [h0] at z; simp at z
    · exact z
  have less : ∀ b ∈ L.filter (fun b => decide (b ∉ ps)), b ∈ L := fun b hb => (List.mem_filter.mp hb).1
  have sm : Same (mask H L) (mask H (L.filter fun b => decide (b ∉ ps))) := mask_less less
  have inF : ∀ b, b ∈ L → b ∉ ps → b ∈ L.filter (fun b => decide (b ∉ ps)) := fun b h1 h2 => List.mem_filter.mpr ⟨h1, decide_eq_true h2⟩
  have ouF : ∀ b ∈ ps, b ∉ L.filter (fun b => decide (b ∉ ps)) := fun b hb z => (of_decide_eq_true (List.mem_filter.mp z).2) hb
  obtain ⟨n1, n2⟩ := List.nodup_cons.mp x.nd
  have gl : g < as1.length := (List.getElem?_eq_some_iff.mp x.f).1
  refine ⟨?_, sm, .set x.f⟩
  exact {
    len := r.len
    l0 := r.l0
    sub := fun b hb => inF b (r.sub b hb) fun z => r.l0 b hb (hnew b (hflat b (List.mem_cons_of_mem _ z)))
    new := fun b hb => r.new b (less b hb)
    live := fun b hb => r.live b (less b hb)
    frame := r.frame
    dat := fun j d e => by
      obtain ⟨v, q1, q2⟩ := r.dat j d e
      exact ⟨v, q1, q2.mono sm⟩
    own := fun j ds e => by
      obtain ⟨b, vs, q1, q2, q3, q4, q5, q6⟩ := r.own j ds e
      exact ⟨b, vs, q1, q2, q3.mono sm, inF b q4 (fun z => q6 (hflat b (List.mem_cons_of_mem _ z))), q5, fun z => q6 (flatten_set_sub x.f z).1⟩
    owd := r.owd
    hdl := fun j k e => by
      obtain ⟨b, fp, q1, q2⟩ := r.hdl j k e
      by_cases c : g = k
      · subst c
        rw [x.f] at q1
        cases q1
        exact ⟨a, [], List.getElem?_set_self gl, q2⟩
      · exact ⟨b, fp, by rw [List.getElem?_set_ne c]; exact q1, q2⟩
    g := {
      glen := by rw [List.length_set, List.length_set]; exact r.g.glen
      gok := fun k go fp e f => by
        rcases set_get e with ⟨e1, e2, _⟩ | ⟨n, e⟩
        · subst e1; subst e2
          rw [List.getElem?_set_self gl] at f
          cases f
          exact ⟨a, ws, rfl, x.h, x.al.frz sm fun p hp o ho => mask_of ho (ouF p hp)⟩
        · rw [List.getElem?_set_ne (Ne.symm n)] at f
          exact (r.g.gok k go fp e f).mono sm fun _ _ _ z => z
      gin := fun fp hf b hb => by
        obtain ⟨z1, z2⟩ := flatten_set_sub x.f (List.mem_flatten.mpr ⟨fp, hf, hb⟩)
        obtain ⟨fq, z3, z4⟩ := List.mem_flatten.mp z1
        exact inF b (r.g.gin fq z3 b z4) (z2 r.g.gnd)
      gnd := flatten_set_nodup (nw := []) r.g.gnd x.f (by simp) (fun b hb => .inl (by rw [List.mem_singleton.mp hb]; exact List.mem_cons_self)) (fun b hb => absurd hb (by simp)) }
    gnew := fun b hb => r.gnew b (flatten_set_sub x.f hb).1
    hd := r.hd.trans (.set x.f)
    nt := fun b hb => r.nt b (less b hb)
    ent := r.ent }
end
/-! ### the raw step of setdefault -/
section
variable {X : Cx} {pins : List (Addr × Obj)} {σ : L2.St} {H : Hp} {s : Shared} {a b : Addr} {d : V} {r : Value} {A : Around} {E : Value → Shared → Prop} {kvs : List (List Key × V)} {k : List Key}
theorem dt_setd {Q : Value → Shared → Prop} (hu : A.units + 1 < cLine) (I : Inv X pins σ H s) (e : H a = some (.dT kvs)) (eb : H b = some (.tup (k.map kV))) (rd : RelV d r) (l : kvs.length < sizeLine)
    (h1 : ∀ v, valV kvs k = some v → ∀ (w' : Value) (s' : Shared), Inv X pins σ H s' → RelV v w' → Q w' s') (h2 : valV kvs k = none → ∀ s' : Shared, Inv X pins σ (upd H a (.dT (putK kvs k d))) s' → Q r s') :
    wpAny (model X.prog X.w) A (call (.builtin "dict.setdefault") [.ref a, .ref b, r]) Q E s := by
  obtain ⟨z, hd, xs, rel, dd⟩ := dt_of I.hok e
  have hz : xs.length ≤ sizeLine := by rw [← Paired.length rel]; exact z
  have hl : (putK kvs k d).length ≤ sizeLine := by have := length_putK kvs k d; omega
  have hval := rel.val k
  refine call_setdefault_heap (hsz := hz) (tupleKind_room_in1 hu) (key_of I.hok eb) hd dd (fun p hp => ?_) fun hn h' dd' hs => ?_
  · rw [hp] at hval
    cases q : valV kvs k with
    | none => rw [q] at hval; exact (show False from hval).elim
    | some v =>
      rw [q] at hval
      exact h1 v q _ _ (I.tok _) hval
  · rw [hn] at hval
    have q : valV kvs k = none := by
      cases q : valV kvs k with
      | none => rfl
      | some v => rw [q] at hval; exact (show False from hval).elim
    refine h2 q _ ?_
    obtain ⟨o, es, ep, ho, h3, h4, h5, _, h6⟩ := dd'
    refine d_write I (by rw [e]; exact True.intro) hs ⟨o, ho⟩ ⟨hl, hd, _, (rel.put k eb rd).keeps fun c ys ec => ?_, o, es, ep, ho, h3, h4, h5, h6⟩
    rw [upd_ne (ne_of ec e (fun z => nomatch z))]
    exact ec
end
/-- d.setdefault(k, x), k a tuple -/
def tDSetdT (td ty tx : TE) : TE := fun σ H Q => td σ H fun x H1 => ∃ a, x = .ref a ∧ IsD H1 a ∧ ty σ H1 fun y H2 => tx σ H2 fun z H3 => ∃ (kvs : List (List Key × V)) (k : List Key) (b : Addr), H3 a = some (.dT kvs) ∧ y = .ref b ∧ H3 b = some (.tup (k.map kV)) ∧ kvs.length < sizeLine ∧
  (∀ v, valV kvs k = some v → Q v H3) ∧ (valV kvs k = none → Q z (upd H3 a (.dT (putK kvs k z))))
section
variable {X : Cx} {N : Ent} {W : WX} {o e f : Expr} {td ty tx : TE} {apos cpos pos : Pos}
theorem pe_dsetdT (hu : X.A.units + 1 < cLine) (ho : PE X o td) (he : PE X e ty) (hf : PE X f tx) (m : M2 X o "setdefault" apos e f cpos) : PE X (.Call (.Attribute o "setdefault" apos) [e, f] [] cpos) (tDSetdT td ty tx) := by
  refine ⟨fun pins s σ H Q I h => ?_⟩
  have run1 := ho.run pins s σ H _ I h
  refine wpAny_Call_method m.base m.few m.line PySem.F.plainAttrs_dict PySem.F.slot_dict_setdefault PySem.F.type_dict_setdefault (thn run1 fun u s1 ⟨x, H1, I1, rx, a, ex, d, q1⟩ => ?_)
  subst ex
  obtain rfl : u = Value.ref a := rx
  obtain ⟨t1, t2, _⟩ := isD_at I1 d
  refine ⟨t1, t2, ?_⟩
  rw [m.trees]
  apply Calls.callWith_builtin rfl
  apply Calls.evalArgs_plain
  refine Calls.spliced_cons (thn (he.run pins s1 σ H1 _ I1 q1) fun iv s2 ⟨y, H2, I2, ry, q2⟩ => ?_)
  refine Calls.spliced_cons (thn (hf.run pins s2 σ H2 _ I2 q2) fun fv s3 ⟨z, H3, I3, rz, kvs, k, b, ea, ey, eb, hl, q3, q4⟩ => Calls.spliced_nil ?_)
  subst ey
  obtain rfl : iv = Value.ref b := ry
  exact dt_setd hu I3 ea eb rz hl (fun v hv w' s4 I4 rw' => ⟨v, _, I4, rw', q3 v hv⟩) fun hn s4 I4 => ⟨z, _, I4, rz, q4 hn⟩
theorem je_dnewL : JE X N W (.Dict [] [] pos) (mDnew (.dl [])) := PE.weak pe_dnewT fun σ H Q ⟨L, as1, st, rel, h⟩ p np => fin_dnew rel h np ⟨p, [], [], rfl, upd_same, .nil⟩
theorem _root_.List.getElem?_lt {α : Type} {l : List α} {i : Nat} {x : α} (h : l[i]? = some x) : i < l.length := (List.getElem?_eq_some_iff.mp h).1
theorem tkey_at {H : Hp} {v : V} {dk : PyData} {ks : List Key} (h : At H v dk) (e : tkeyOf dk = some ks) : ∃ b, v = .ref b ∧ H b = some (.tup (ks.map kV)) := by
  cases dk with
  | tuple ds =>
    cases h with
    | tup h1 h2 => exact ⟨_, rfl, by rw [← keysOf_at h2 e]; exact h1⟩
  | none => cases e
  | bool _ => cases e
  | int _ => cases e
  | str _ => cases e
  | list _ => cases e
  | dict _ => cases e
/-- x not in d.setdefault(k, []): slots x, d, k -/
@[simp] def mNotInSd (i j k : Nat) (st : ST) : R RV := match st.sl[i]?, st.sl[j]?, st.sl[k]? with
  | some (.dat d), some (.hdl g), some (.dat dk) => (match st.gs[g]?, tkeyOf dk with
    | some (.dl kvs), some ks => if kvs.length < 100000 then (match lkL kvs ks with
      | some ds => outO (notInD d (.list ds)) st
      | none => outO (notInD d (.list [])) { st with gs := st.gs.set g (.dl (kvs ++ [(ks, [])])) }) else .stuck
    | _, _ => .stuck)
  | _, _, _ => .stuck
theorem sd_core {K : PySem.W.Frag} {i j k : Nat} {σ : L2.St} {H : Hp} {Q : VK} (h : semE N W (mNotInSd i j k) σ H Q) : tOp (rNotInD K) (tVar i) (tDSetdT (tVar j) (tVar k) (tLst tNil)) σ H Q := by
  obtain ⟨L, as1, st, rel, h⟩ := h
  unfold mNotInSd at h
  split at h
  · rename_i d g dk e1 e2 e3
    split at h
    · rename_i kvs ks e4 e5
      obtain ⟨v, w1, a1⟩ := rel.dat i d e1
      obtain ⟨vk, w3, a3⟩ := rel.dat k dk e3
      obtain ⟨a, ws, ps, w2, D⟩ := rel.dl e2 e4
      obtain ⟨b, rfl, hb⟩ := tkey_at a3 e5
      have hbH := mask_same _ _ hb
      have hba : ∀ l, H l = none → b ≠ l := fun l nl z => by rw [z, nl] at hbH; cases hbH
      refine ⟨v, w1, .ref a, w2, a, rfl, .inr ⟨ws, .inl D.h⟩, .ref b, w3, Nat.zero_le _, fun l nl => ?_⟩
      have la : a ≠ l := fun z => by rw [← z, D.h] at nl; cases nl
      have s1 : Same H (upd H l (.lst [])) := same_new nl
      split at h
      · rename_i hl
        refine ⟨ws, ks, b, by rw [upd_ne la]; exact D.h, rfl, s1 _ _ hbH, ?_, fun u hu' => ?_, fun hn => ?_⟩
        · rw [D.al.len]
          exact Nat.lt_of_lt_of_le hl (by decide)
        · split at h
          · rename_i ds e6
            obtain ⟨p, vs, q1, q2, q3, q4⟩ := D.al.get e6
            rw [hu'] at q1
            cases q1
            unfold outO at h
            split at h
            · rename_i dd e7
              simp only [notInD] at e7
              split at e7
              · rename_i hc
                cases e7
                have np : p ≠ l := fun z => by rw [← z, q3] at nl; cases nl
                have t1 : Same (mask H L) (mask (upd H l (.lst [])) L) := mask_grow s1
                refine ⟨d, ds, ((a1.mono t1).mono mask_same).dp, .lst (.inl (.inl (s1 _ _ q3))) ((q4.mono t1).mono mask_same).dp, hc.1, hc.2, ?_⟩
                exact fin_dat rel h s1 (.bl _)
              · cases e7
            · exact h.elim
          · rename_i e6
            have := D.al.none e6
            rw [this] at hu'
            cases hu'
        · split at h
          · rename_i ds e6
            obtain ⟨p, vs, q1, _⟩ := D.al.get e6
            rw [hn] at q1
            cases q1
          · rename_i e6
            unfold outO at h
            split at h
            · rename_i dd e7
              simp only [notInD] at e7
              split at e7
              · rename_i hc
                cases e7
                obtain ⟨r5, x5⟩ := rel.dlNew D (k := ks) nl
                rw [putK_new _ hn]
                have hne : (upd (upd H l (.lst [])) a (.dT (ws ++ [(ks, V.ref l)]))) l = some (.lst []) := by rw [upd_ne (Ne.symm la), upd_same]
                refine ⟨d, [], ((a1.mono x5.dat).mono mask_same).dp, .lst (.inl (.inl hne)) .nil, hc.1, hc.2, ?_⟩
                exact h _ _ _ _ r5 (.bl _) x5
              · cases e7
            · exact h.elim
      · exact h.elim
    · exact h.elim
  · exact h.elim
theorem je_notInSd {i j k : Nat} {x y z : Str} {px py pz pl : Pos} (hu : X.A.units + 65 < cLine) (h1 : X.N[i]? = some x := by rfl) (h2 : X.N[j]? = some y := by rfl) (h3 : X.N[k]? = some z := by rfl)
    (v1 : Vis X.env.scope x := by first | exact Or.inl rfl | exact Or.inr (Or.inl rfl) | exact Or.inr (Or.inr rfl)) (v2 : Vis X.env.scope y := by first | exact Or.inl rfl | exact Or.inr (Or.inl rfl) | exact Or.inr (Or.inr rfl)) (v3 : Vis X.env.scope z := by first | exact Or.inl rfl | exact Or.inr (Or.inl rfl) | exact Or.inr (Or.inr rfl))
    (d1 : (x == ("__debug__" : Str)) = false := by decide) (d2 : (y == ("__debug__" : Str)) = false := by decide) (d3 : (z == ("__debug__" : Str)) = false := by decide)
    (c1 : (x == ("__classdict__" : Str)) = false := by decide) (c2 : (y == ("__classdict__" : Str)) = false := by decide) (c3 : (z == ("__classdict__" : Str)) = false := by decide)
    (m : M2 X (.Name y py) "setdefault" apos (.Name z pz) (.List [] pl) cpos := by exact ⟨rfl, rfl, rfl, rfl⟩)
    (hm : behindInMarks .NotIn (.Call (.Attribute (.Name y py) "setdefault" apos) [.Name z pz, .List [] pl] [] cpos) = false := by rfl) :
    JE X N W (.Compare (.Name x px) [.NotIn] [.Call (.Attribute (.Name y py) "setdefault" apos) [.Name z pz, .List [] pl] [] cpos] pos) (mNotInSd i j k) := PE.weak (pe_cmpR (op_notInD hu) (pe_var h1 v1 d1 c1) (pe_dsetdT (by omega) (pe_var h2 v2 d2 c2) (pe_var h3 v3 d3 c3) (pe_lst pa_nil) m) hm) fun σ H Q h => sd_core h
theorem jt_notInSd {i j k : Nat} {x y z : Str} {px py pz pl : Pos} (hu : X.A.units + 65 < cLine) (h1 : X.N[i]? = some x := by rfl) (h2 : X.N[j]? = some y := by rfl) (h3 : X.N[k]? = some z := by rfl)
    (v1 : Vis X.env.scope x := by first | exact Or.inl rfl | exact Or.inr (Or.inl rfl) | exact Or.inr (Or.inr rfl)) (v2 : Vis X.env.scope y := by first | exact Or.inl rfl | exact Or.inr (Or.inl rfl) | exact Or.inr (Or.inr rfl)) (v3 : Vis X.env.scope z := by first | exact Or.inl rfl | exact Or.inr (Or.inl rfl) | exact Or.inr (Or.inr rfl))
    (d1 : (x == ("__debug__" : Str)) = false := by decide) (d2 : (y == ("__debug__" : Str)) = false := by decide) (d3 : (z == ("__debug__" : Str)) = false := by decide)
    (c1 : (x == ("__classdict__" : Str)) = false := by decide) (c2 : (y == ("__classdict__" : Str)) = false := by decide) (c3 : (z == ("__classdict__" : Str)) = false := by decide)
    (m : M2 X (.Name y py) "setdefault" apos (.Name z pz) (.List [] pl) cpos := by exact ⟨rfl, rfl, rfl, rfl⟩)
    (hm : behindInMarks .NotIn (.Call (.Attribute (.Name y py) "setdefault" apos) [.Name z pz, .List [] pl] [] cpos) = false := by rfl) :
    JT X N W (.Compare (.Name x px) [.NotIn] [.Call (.Attribute (.Name y py) "setdefault" apos) [.Name z pz, .List [] pl] [] cpos] pos) (mTest (mNotInSd i j k)) := PT.weak (pt_cmpR (op_notInD hu) (pe_var h1 v1 d1 c1) (pe_dsetdT (by omega) (pe_var h2 v2 d2 c2) (pe_var h3 v3 d3 c3) (pe_lst pa_nil) m) hm) fun σ H Q h => sd_core (sem_test h)
end
end JL
/-! J66: d[k].append(x), layer = following, {(): [x]}. -/
namespace JL
open PySem PySem.Spec PyProof.Rows L2
section
variable {X : Cx} {N : Ent} {W : WX} {apos cpos pos : Pos}
/-- d[k].append(x): slots d, k, x -/
@[simp] def mAppD (j k i : Nat) (st : ST) : R RV := match st.sl[j]?, st.sl[k]?, st.sl[i]? with
  | some (.hdl g), some (.dat dk), some (.dat d) => (match st.gs[g]?, tkeyOf dk with
    | some (.dl kvs), some ks => (match lkL kvs ks with
      | some ds => if ds.length < maxLen then .ok (.dat .none) { st with gs := st.gs.set g (.dl (setL ks (ds ++ [d]) kvs)) } else .stuck
      | none => .stuck)
    | _, _ => .stuck)
  | _, _, _ => .stuck
theorem je_appD {i j k : Nat} {x y z : Str} {px py pz psb : Pos} (hu : X.A.units + 65 < cLine) (h2 : X.N[j]? = some y := by rfl) (h3 : X.N[k]? = some z := by rfl) (h1 : X.N[i]? = some x := by rfl)
    (v1 : Vis X.env.scope x := by first | exact Or.inl rfl | exact Or.inr (Or.inl rfl) | exact Or.inr (Or.inr rfl)) (v2 : Vis X.env.scope y := by first | exact Or.inl rfl | exact Or.inr (Or.inl rfl) | exact Or.inr (Or.inr rfl)) (v3 : Vis X.env.scope z := by first | exact Or.inl rfl | exact Or.inr (Or.inl rfl) | exact Or.inr (Or.inr rfl))
    (d1 : (x == ("__debug__" : Str)) = false := by decide) (d2 : (y == ("__debug__" : Str)) = false := by decide) (d3 : (z == ("__debug__" : Str)) = false := by decide)
    (c1 : (x == ("__classdict__" : Str)) = false := by decide) (c2 : (y == ("__classdict__" : Str)) = false := by decide) (c3 : (z == ("__classdict__" : Str)) = false := by decide)
    (hbase : attributeBase (.Subscript (.Name y py) (.Name z pz) psb) "append" X.env (eval (.Subscript (.Name y py) (.Name z pz) psb) X.env) = eval (.Subscript (.Name y py) (.Name z pz) psb) X.env := by rfl)
    (hfew : ((backTo cpos (starEach [.Name x px] X.env)).all (fun x => !x.1) && (backToKw cpos (keywordEach [] X.env)).all (fun x => x.1.isSome) && decide ([Expr.Name x px].length + ([] : List Keyword).length + (if ([] : List Keyword).isEmpty then 0 else 1) < 30)) = true := by rfl)
    (hline : (apos.endLine == cpos.line) = true := by rfl) (hs : starEach [.Name x px] X.env = (false, eval (.Name x px) X.env) :: starEach [] X.env := by rfl) (hpl : (backTo cpos (starEach [] X.env)).any (·.1) = false := by rfl) (hns : NoSl (.Name z pz) := by exact fun _ _ => rfl) :
    JE X N W (.Call (.Attribute (.Subscript (.Name y py) (.Name z pz) psb) "append" apos) [.Name x px] [] cpos) (mAppD j k i) := by
  refine PE.weak (pe_bm PySem.F.plainAttrs_list PySem.F.slot_list_append PySem.F.type_list_append mt_append (pe_dget (by omega) (pe_var h2 v2 d2 c2) (pe_var h3 v3 d3 c3) hns) (pa_cons (pe_var h1 v1 d1 c1) pa_nil) hbase hfew hline hs hpl) fun σ H Q ⟨L, as1, st, rel, h⟩ => ?_
  unfold mAppD at h
  split at h
  · rename_i g dk d e2 e3 e1
    split at h
    · rename_i kvs ks e4 e5
      split at h
      · rename_i ds e6
        split at h
        · rename_i hl
          obtain ⟨v, w1, a1⟩ := rel.dat i d e1
          obtain ⟨vk, w3, a3⟩ := rel.dat k dk e3
          obtain ⟨a, ws, ps, w2, D⟩ := rel.dl e2 e4
          obtain ⟨b, rfl, hb⟩ := tkey_at a3 e5
          obtain ⟨p, vs, q1, q2, q3, q4⟩ := D.al.get e6
          refine ⟨.ref a, w2, .ref b, w3, a, .ref p, rfl, by rw [← q1]; exact DGet.t D.h (mask_same _ _ hb), .inl ⟨rfl, _, SqL.of q3⟩, ?_⟩
          refine ⟨v, w1, ?_⟩
          refine ⟨p, vs, v, rfl, rfl, q3, ?_, ?_⟩
          · rw [q4.length]
            exact Nat.lt_of_lt_of_le hl (by decide)
          · obtain ⟨r5, x5⟩ := rel.dlSet D e6 q1 (q4.append (Ats.one a1))
            exact h _ _ _ _ r5 .non x5
        · exact h.elim
      · exact h.elim
    · exact h.elim
  · exact h.elim
/-- x = d: d's lists are given up -/
@[simp] def mFrz (i j : Nat) (st : ST) : R Flw := match st.sl[j]? with
  | some (.hdl g) => (match st.gs[g]? with
    | some (.dl kvs) => if i < st.sl.length then .ok .nx { sl := st.sl.set i (.hdl g), gs := st.gs.set g (.dt (frzL kvs)) } else .stuck
    | _ => .stuck)
  | _ => .stuck
theorem js_frz {i j : Nat} {x y : Str} {pos' py : Pos} (h0 : N.as0 = []) (hN : X.N.Nodup) (hi : X.N[i]? = some x := by rfl) (hx : Loc X.env.scope x := by first | exact Or.inl rfl | exact Or.inr rfl) (hj : X.N[j]? = some y := by rfl) (hv : Vis X.env.scope y := by first | exact Or.inl rfl | exact Or.inr (Or.inl rfl) | exact Or.inr (Or.inr rfl))
    (hd : (y == ("__debug__" : Str)) = false := by decide) (hcd : (y == ("__classdict__" : Str)) = false := by decide) (hs : swapsWith (.Name y py) (some (.Name x pos')) pos.line X.env = pure false := by rfl) (hf : X.fn x = true ∨ X.env.scope.names.lookup x = some .local := by first | exact .inl rfl | exact .inr rfl | assumption) :
    JS X N W (.Assign [.Name x pos'] (.Name y py) pos) (mFrz i j) := by
  refine PS.weak (ps_set hN hi hx (pe_var hj hv hd hcd) hs hf) fun D σ H ⟨L, as1, st, rel, h⟩ => ?_
  unfold mFrz at h
  split at h
  · rename_i g e1
    split at h
    · rename_i kvs e2
      split at h
      · rename_i hl
        obtain ⟨a, ws, ps, w2, D⟩ := rel.dl e1 e2
        refine ⟨_, w2, ?_⟩
        obtain ⟨r5, x5⟩ := rel.dlFrz h0 D
        have ga : (as1.set g [a])[g]? = some [a] := List.getElem?_set_self (List.getElem?_eq_some_iff.mp D.f).1
        exact h _ _ _ _ (r5.setHdl (by rw [← r5.len]; exact hl) ga) x5
      · exact h.elim
    · exact h.elim
  · exact h.elim
/-! {(): [x]} -/
def tDispT (tk tv : TE) : TE := fun σ H Q => ∀ p, H p = none → tk σ (upd H p (.dT [])) fun x H1 => tv σ H1 fun y H2 => ∃ x' y', [(x, y)] = [(x', y')] ∧ ∃ b ks, x' = .ref b ∧ H2 b = some (.tup (ks.map kV)) ∧ H2 p = some (.dT []) ∧ Q (.ref p) (upd H2 p (.dT [(ks, y')]))
theorem dispT_keeps {prog : Program} {w : World} {A : Around} {E : Value → Shared → Prop} {s : Shared} {env : Env} {keys : List (Option Expr)} {values : List Expr} {pos : Pos} {pairs : List (Sem Value × Sem Value)} {Q : Value → Shared → Prop} (room : (tupleKind (mixKind prog w)).room A)
    (hsh : (evalEachOpt keys env).zip ((evalEach values env).map fun v => do let x ← v; standAt pos; pure x) = pairs.map fun p => (some p.1, p.2)) (h0 : pairs ≠ []) (h15 : pairs.length ≤ 15)
    (go : wpAny (model prog w) A (evalPairs pairs) (fun vs s₁ => ∃ ps, CarriesH (tupleKind (mixKind prog w)) s₁.heap vs ps ∧ s₁.heap.DictOfH (tupleKind (mixKind prog w)) s.heap.objs.size [] ∧
      ∀ h' tk, h'.DictOfH (tupleKind (mixKind prog w)) s.heap.objs.size (storedAllH [] ps) → Heap.SameBut s.heap.objs.size s₁.heap h' → Q (.ref s.heap.objs.size) { s₁ with heap := h', toks := tk }) E { s with heap := s.heap.push { cls := .type "dict", data := .dict #[] } }) :
    wpAny (model prog w) A (eval (.Dict keys values pos) env) Q E s := by
  rw [arm_eval_Dict, hsh, dictDisplay_pairs pairs h0 (by omega)]
  refine wpAny_bind (wpAny_standAt (wpAny_bind ?_))
  refine wpAny_subDictH (knd := tupleKind (mixKind prog w)) room h15 ?_
  refine wpAny_mono go (fun vs s₁ ⟨ps, a, b, c⟩ => ⟨ps, a, b, fun h' tk d e => wpAny_pure (c h' tk d e)⟩) fun _ _ z => z
theorem pe_dispT {ke ve : Expr} {tk tv : TE} {pos : Pos} (room : (tupleKind (mixKind X.prog X.w)).room X.A) (hk : PE X ke tk) (hv : PE X ve tv) (hsh : (evalEachOpt [some ke] X.env).zip ((evalEach [ve] X.env).map fun v => do let x ← v; standAt pos; pure x) = (pairTrees [some ke] [ve] X.env pos).map fun p => (some p.1, p.2) := by rfl) (hlen : (pairTrees [some ke] [ve] X.env pos).length = 1 := by rfl) :
    PE X (.Dict [some ke] [ve] pos) (tDispT tk tv) := by
  refine ⟨fun pins s σ H Q I q => ?_⟩
  have hn := I.hok.fresh (Nat.le_refl s.heap.objs.size)
  have I1 : Inv X pins σ (upd H s.heap.objs.size (.dT [])) { s with heap := s.heap.push { cls := .type "dict", data := .dict #[] } } := I.laid (a := s.heap.objs.size) (o := .dT []) (t' := s.toks) (fun _ _ q => Heap.get?_push_of_some _ q) (Nat.le_refl _) (dt_empty s.heap I.big)
  have run := (pps_cons (pos := pos) hk hv pps_nil).run pins _ σ _ (fun ps H2 => ∃ x y, ps = [(x, y)] ∧ ∃ b ks, x = .ref b ∧ H2 b = some (.tup (ks.map kV)) ∧ H2 s.heap.objs.size = some (.dT []) ∧ Q (.ref s.heap.objs.size) (upd H2 s.heap.objs.size (.dT [(ks, y)]))) I1 (by
    have q' := q _ hn
    show tk σ _ fun x H1 => tv σ H1 fun y H2 => _
    exact q')
  refine dispT_keeps (pairs := pairTrees [some ke] [ve] X.env pos) room hsh (fun z => by rw [z] at hlen; cases hlen) (by rw [hlen]; decide) (thn run fun ws s2 ⟨ps, H2, I2, rel, x, y, ep, b, ks, ex, hb, e, q2⟩ => ?_)
  subst ep
  subst ex
  cases ws with
  | nil => cases rel
  | cons wv ws =>
    obtain ⟨wk, wy⟩ := wv
    obtain ⟨r1a, r1b⟩ : RelV (V.ref b) wk ∧ RelV y wy := by
      cases rel with
      | cons r1 r2 => exact r1
    have ews : ws = [] := by
      cases rel with
      | cons r1 r2 => cases r2; rfl
    subst ews
    have ewk : wk = Value.ref b := r1a
    subst ewk
    obtain ⟨z, hd, xs, rel2, dd⟩ := dt_of I2.hok e
    cases rel2
    refine ⟨[(ks, b, wy)], ⟨rfl, rfl, key_of I2.hok hb, trivial⟩, dd, fun h' tk dd' sb => ⟨.ref s.heap.objs.size, _, ?_, rfl, q2⟩⟩
    have dd2 : h'.DictOfH (tupleKind (mixKind X.prog X.w)) s.heap.objs.size [(ks, b, wy)] := dd'
    obtain ⟨o, es, ep2, ho, h3, h4, h5, _, h6⟩ := dd2
    refine d_write I2 (by rw [e]; exact True.intro) sb ⟨o, ho⟩ ⟨by show 1 ≤ sizeLine; decide, hd, [(ks, b, wy)], .cons ⟨rfl, ?_, r1b⟩ .nil, o, es, ep2, ho, h3, h4, h5, h6⟩
    show upd H2 s.heap.objs.size _ b = _
    rw [upd_ne (ne_of hb e (fun z => nomatch z))]
    exact hb
@[simp] def mDispT (i : Nat) (st : ST) : R RV := match st.sl[i]? with
  | some (.dat d) => .ok (.hdl st.gs.length) { st with gs := st.gs ++ [.dt [([], .list [d])]] }
  | _ => .stuck
theorem je_dispT {i k1 : Nat} {x : Str} {px pt pl : Pos} (hu : X.A.units + 65 < cLine) (h1 : X.N[i]? = some x := by rfl) (v1 : Vis X.env.scope x := by first | exact Or.inl rfl | exact Or.inr (Or.inl rfl) | exact Or.inr (Or.inr rfl)) (d1 : (x == ("__debug__" : Str)) = false := by decide) (c1 : (x == ("__classdict__" : Str)) = false := by decide)
    (hsh : (evalEachOpt [some (.Tuple [] k1 pt)] X.env).zip ((evalEach [.List [.Name x px] pl] X.env).map fun v => do let x ← v; standAt pos; pure x) = (pairTrees [some (.Tuple [] k1 pt)] [.List [.Name x px] pl] X.env pos).map fun p => (some p.1, p.2) := by rfl) (hlen : (pairTrees [some (.Tuple [] k1 pt)] [.List [.Name x px] pl] X.env pos).length = 1 := by rfl) :
    JE X N W (.Dict [some (.Tuple [] k1 pt)] [.List [.Name x px] pl] pos) (mDispT i) := by
  refine PE.weak (pe_dispT (show X.A.units < cLine by omega) (pe_tup pa_nil) (pe_lst (pa_cons (pe_var h1 v1 d1 c1) pa_nil)) hsh hlen) fun σ H Q ⟨L, as1, st, rel, h⟩ => ?_
  unfold mDispT at h
  split at h
  · rename_i d e1
    obtain ⟨v, w1, a1⟩ := rel.dat i d e1
    intro p np
    refine ⟨Nat.zero_le _, fun t nt => ?_⟩
    have ntp : t ≠ p := fun z => by rw [z, upd_same] at nt; cases nt
    have nt0 : H t = none := by rw [upd_ne ntp] at nt; exact nt
    refine ⟨v, w1, by show 1 ≤ sizeLine; decide, fun l nl => ?_⟩
    have nlt : l ≠ t := fun z => by rw [z, upd_same] at nl; cases nl
    have nl1 : (upd H p (.dT [])) l = none := by rw [upd_ne nlt] at nl; exact nl
    have nlp : l ≠ p := fun z => by rw [z, upd_same] at nl1; cases nl1
    have nl0 : H l = none := by rw [upd_ne nlp] at nl1; exact nl1
    refine ⟨_, _, rfl, t, [], rfl, by rw [upd_ne (Ne.symm nlt), upd_same]; rfl, by rw [upd_ne (Ne.symm nlp), upd_ne (Ne.symm ntp), upd_same], ?_⟩
    have s1 : Same H (upd H t (.tup [])) := same_new nt0
    have nl2 : (upd H t (.tup [])) l = none := by rw [upd_ne nlt]; exact nl0
    have s2 : Same H (upd (upd H t (.tup [])) l (.lst [v])) := s1.trans (same_new nl2)
    have np2 : (upd (upd H t (.tup [])) l (.lst [v])) p = none := by rw [upd_ne (Ne.symm nlp), upd_ne (Ne.symm ntp)]; exact np
    have eH : upd (upd (upd (upd H p (.dT [])) t (.tup [])) l (.lst [v])) p (.dT [([], .ref l)]) = upd (upd (upd H t (.tup [])) l (.lst [v])) p (.dT [([], .ref l)]) := by
      funext z
      by_cases z1 : z = p
      · rw [z1, upd_same, upd_same]
      · rw [upd_ne z1, upd_ne z1]
        by_cases z2 : z = l
        · rw [z2, upd_same, upd_same]
        · rw [upd_ne z2, upd_ne z2]
          by_cases z3 : z = t
          · rw [z3, upd_same, upd_same]
          · rw [upd_ne z3, upd_ne z3, upd_ne z1]
    rw [eH]
    have r1 := rel.grow s2
    have pl : p ∉ L := fun z => rel.live p z np
    have lL : l ∉ p :: L := fun z => by
      rcases List.mem_cons.mp z with z | z
      · exact nlp z
      · exact rel.live l z nl0
    have sg : Same (mask (upd (upd H t (.tup [])) l (.lst [v])) L) (mask (upd (upd (upd H t (.tup [])) l (.lst [v])) p (.dT [([], .ref l)])) (p :: L)) := same_guard np2
    have al : At (mask (upd (upd (upd H t (.tup [])) l (.lst [v])) p (.dT [([], .ref l)])) (p :: L)) (.ref l) (.list [d]) :=
      .lst (mask_of (by rw [upd_ne nlp, upd_same]) lL) (.cons ((a1.mono (mask_grow s2)).mono sg) .nil)
    have r2 := r1.pushG (o := .dT [([], .ref l)]) (go := .dt [([], .list [d])]) np2 ⟨p, _, rfl, upd_same, .cons al .nil⟩
    exact h (p :: L) (as1 ++ [[p]]) (.ref p) _ r2 (hdl_last rel) ((Ext.grow s2).trans ⟨sg, .app⟩)
  · exact h.elim
end
end JL
/-! J67: texts. -/
namespace JL
open PySem PySem.Spec PyProof.Rows L2
/-! numbers as texts -/
def decS (n : Nat) : Str := if n < 10 then ⟨#[48 + n]⟩ else if n < 100 then ⟨#[48 + n / 10, 48 + n % 10]⟩ else ⟨#[48 + n / 100, 48 + n / 10 % 10, 48 + n % 10]⟩
theorem decS_all : ∀ n : Nat, n < 1000 → (Str.ofString (toString ((n : Nat) : Int))).cps.toList = (decS n).cps.toList := by decide +kernel
theorem decS_eq {n : Nat} (h : n < 1000) : Str.ofString (toString ((n : Nat) : Int)) = decS n := Str.ext' (Array.toList_inj.mp (decS_all n h))
def dig (c : Nat) : Bool := Nat.ble 48 c && Nat.ble c 57
/-- the number that a text of up to three figures is -/
def numL : List Nat → Option Nat
  | [a] => if dig a = true then some (a - 48) else none
  | [a, b] => if dig a = true ∧ dig b = true then some (10 * (a - 48) + (b - 48)) else none
  | [a, b, c] => if dig a = true ∧ dig b = true ∧ dig c = true then some (100 * (a - 48) + 10 * (b - 48) + (c - 48)) else none
  | _ => none
theorem int1 : ∀ a, a < 10 → intText? ⟨#[48 + a]⟩ = some (a : Int) := by decide +kernel
theorem int2 : ∀ a, a < 10 → ∀ b, b < 10 → intText? ⟨#[48 + a, 48 + b]⟩ = some ((10 * a + b : Nat) : Int) := by decide +kernel
theorem int3 : ∀ a, a < 10 → ∀ b, b < 10 → ∀ c, c < 10 → intText? ⟨#[48 + a, 48 + b, 48 + c]⟩ = some ((100 * a + 10 * b + c : Nat) : Int) := by decide +kernel
theorem dig_iff {c : Nat} (h : dig c = true) : 48 ≤ c ∧ c ≤ 57 := by
  unfold dig at h
  rw [Bool.and_eq_true] at h
  exact ⟨Nat.le_of_ble_eq_true h.1, Nat.le_of_ble_eq_true h.2⟩
theorem str_of_list {z : Str} {l : List Nat} (h : z.cps.toList = l) : z = ⟨l.toArray⟩ := Str.ext' (Array.toList_inj.mp (by rw [h]))
theorem numL_int {z : Str} {n : Nat} (h : numL z.cps.toList = some n) : intText? z = some (n : Int) := by
  generalize hl : z.cps.toList = l at h
  have hz := str_of_list hl
  unfold numL at h
  split at h
  · rename_i a
    split at h
    · rename_i c
      cases h
      obtain ⟨c1, c2⟩ := dig_iff c
      have := int1 (a - 48) (by omega)
      rw [show 48 + (a - 48) = a by omega] at this
      rw [hz]
      exact this
    · cases h
  · rename_i a b
    split at h
    · rename_i c
      cases h
      obtain ⟨c1, c2⟩ := dig_iff c.1
      obtain ⟨c3, c4⟩ := dig_iff c.2
      have := int2 (a - 48) (by omega) (b - 48) (by omega)
      rw [show 48 + (a - 48) = a by omega, show 48 + (b - 48) = b by omega] at this
      rw [hz]
      exact this
    · cases h
  · rename_i a b c
    split at h
    · rename_i d
      cases h
      obtain ⟨c1, c2⟩ := dig_iff d.1
      obtain ⟨c3, c4⟩ := dig_iff d.2.1
      obtain ⟨c5, c6⟩ := dig_iff d.2.2
      have := int3 (a - 48) (by omega) (b - 48) (by omega) (c - 48) (by omega)
      rw [show 48 + (a - 48) = a by omega, show 48 + (b - 48) = b by omega, show 48 + (c - 48) = c by omega] at this
      rw [hz]
      exact this
    · cases h
  · cases h
/-! the words -/
@[simp] def strD : List PyData → Option PyData
  | [.int i] => if 0 ≤ i ∧ i < 1000 then some (.str (decS i.toNat)) else none
  | _ => none
theorem nat_log {n : Nat} (h : n < 1000) : n.log2 < 1920 := by
  by_cases z : n = 0
  · rw [z]; decide
  · have := (Nat.log2_lt z (k := 10)).mpr (by omega)
    omega
theorem pure_str : PureC (fun xs H Q => ∃ i : Int, xs = [.int i] ∧ i.natAbs.log2 < 1920 ∧ Q (.str (Str.ofString (toString i))) H) strD := by
  intro xs H L Q ds g live h he k
  unfold strD at he
  split at he
  · rename_i i
    split at he
    · rename_i hc
      cases he
      obtain ⟨v, rfl, hv⟩ := Paired.one h
      have := hv.int
      subst this
      have hn : i.toNat < 1000 := by omega
      have e : ((i.toNat : Nat) : Int) = i := Int.toNat_of_nonneg hc.1
      have hs := decS_eq hn
      rw [e] at hs
      refine ⟨i, rfl, ?_, ?_⟩
      · rw [show i.natAbs = i.toNat by omega]
        exact nat_log hn
      · rw [hs]
        exact k _ _ (Same.refl _) (.str _)
    · cases he
  · cases he
@[simp] def intD : List PyData → Option PyData
  | [.str z] => (numL z.cps.toList).map fun n => .int (n : Nat)
  | _ => none
theorem numL_len {l : List Nat} {n : Nat} (h : numL l = some n) : l.length ≤ 3 := by
  unfold numL at h
  split at h
  · simp
  · simp
  · simp
  · cases h
theorem pure_int : PureC (fun xs H Q => ∃ a n, xs = [.str a] ∧ PySem.intText? a = some n ∧ a.length ≤ 640 ∧ Q (.int n) H) intD := by
  intro xs H L Q ds g live h he k
  unfold intD at he
  split at he
  · rename_i z
    cases e1 : numL z.cps.toList with
    | none => rw [e1] at he; cases he
    | some n =>
      rw [e1] at he
      cases he
      obtain ⟨v, rfl, hv⟩ := Paired.one h
      have := hv.str
      subst this
      refine ⟨z, n, rfl, numL_int e1, ?_, k _ _ (Same.refl _) (.int _)⟩
      have := numL_len e1
      rw [Array.length_toList] at this
      exact Nat.le_trans this (by decide)
  · cases he
@[simp] def ixSD : PyData → PyData → Option PyData
  | .str z, .int i => if z.length ≤ maxLen then (atI z.cps.toList i).map fun c => .str ⟨#[c]⟩ else none
  | _, _ => none
theorem pure_ixS : Pure2 rIxS ixSD := by
  intro x y H L Q d e g live hx hy he k
  unfold ixSD at he
  split at he
  · rename_i z i
    split at he
    · rename_i hl
      cases e1 : atI z.cps.toList i with
      | none => rw [e1] at he; cases he
      | some c =>
        rw [e1] at he
        cases he
        exact ⟨z, i, c, hx.str, hy.int, small_max hl, e1, k _ _ (Same.refl _) (.str _)⟩
    · cases he
  · cases he
@[simp] def inSD : PyData → PyData → Option PyData
  | .str x, .str z => (match x.cps.toList with
    | [c] => some (.bool (decide (c ∈ z.cps.toList)))
    | _ => none)
  | _, _ => none
theorem pure_inS : Pure2 (fun x y H Q => ∃ (c : Nat) (z : Str), x = .str ⟨#[c]⟩ ∧ y = .str z ∧ Q (.bl (decide (c ∈ z.cps.toList))) H) inSD := by
  intro x y H L Q d e g live hx hy he k
  unfold inSD at he
  split at he
  · rename_i x z
    split at he
    · rename_i c ec
      cases he
      have := str_of_list ec
      subst this
      exact ⟨c, z, hx.str, hy.str, k _ _ (Same.refl _) (.bl _)⟩
    · cases he
  · cases he
end JL
/-! J68: join, split, f-strings, text * int. -/
namespace JL
open PySem PySem.Spec PyProof.Rows L2
@[simp] def strsOf : List PyData → Option (List Str)
  | [] => some []
  | .str z :: r => (strsOf r).bind fun ys => some (z :: ys)
  | _ :: _ => none
theorem strsOf_eq : ∀ {ds : List PyData} {ys : List Str}, strsOf ds = some ys → ds = ys.map .str
  | [], ys, h => by cases h; rfl
  | d :: r, ys, h => by
    cases d with
    | str z =>
      rw [strsOf] at h
      cases e1 : strsOf r with
      | none => rw [e1] at h; cases h
      | some zs =>
        rw [e1] at h
        cases h
        rw [strsOf_eq e1, List.map_cons]
    | none => cases h
    | bool b => cases h
    | int b => cases h
    | tuple b => cases h
    | list b => cases h
    | dict b => cases h
def joinOkT (sep : Str) (ys : List Str) : Bool := decide ((ys.map (·.length)).sum + ys.length * sep.length ≤ 100000)
section
variable {X : Cx} {N : Ent} {W : WX} {e : Expr} {es : List Expr} {ma mb : M RV} {pos apos : Pos}
/-- 'sep'.join(e) -/
@[simp] def mJoinC (sep : Str) (mb : M RV) (st0 : ST) : R RV := (mb.bind fun b => fun st => match st.look b with
  | some (.list ds) => (match strsOf ds with
    | some ys => if joinOkT sep ys = true then .ok (.dat (.str (Str.join sep ys))) st else .stuck
    | none => .stuck)
  | _ => .stuck) st0
theorem je_joinC {sep : String} {j : Nat} {ps : Pos} (he : JE X N W e mb) (hs : starEach [e] X.env = [(false, eval e X.env)] := by rfl)
    (hbase : attributeBase (.Constant (.str sep) j ps) "join" X.env (eval (.Constant (.str sep) j ps) X.env) = eval (.Constant (.str sep) j ps) X.env := by rfl) (hline : (apos.endLine == pos.line) = true := by rfl) :
    JE X N W (.Call (.Attribute (.Constant (.str sep) j ps) "join" apos) [e] [] pos) (mJoinC sep mb) := by
  refine PE.weak (pe_join pe_str he hs hbase hline) fun σ H Q ⟨L, as1, st, rel, h⟩ => ?_
  refine ⟨⟨_, rfl⟩, ?_⟩
  refine sem_mono (fin_bind (P1 := VRel) rel h) fun v H1 ⟨L3, as3, s3, rv3, r3, v3, x3, f3⟩ => ?_
  cases e1 : s3.look rv3 with
  | none => rw [e1] at f3; exact f3.elim
  | some d =>
    rw [e1] at f3
    cases d with
    | list ds =>
      dsimp only at f3
      cases e2 : strsOf ds with
      | none => rw [e2] at f3; exact f3.elim
      | some ys =>
        rw [e2] at f3
        dsimp only at f3
        by_cases hc : joinOkT sep ys = true
        · rw [if_pos hc] at f3
          obtain ⟨a, vs, rfl, ha, hv⟩ := (r3.look v3 e1).list
          rw [strsOf_eq e2] at hv
          rw [hv.strs] at ha
          refine ⟨sep, a, ys, rfl, rfl, .inl (SqL.of ha), Nat.le_trans (of_decide_eq_true hc) (by decide), ?_⟩
          have ej : Txt.join sep ys = Str.join sep ys := StrLaws.glued_eq_join _ _
          rw [ej]
          exact fin_dat r3 f3 (Same.refl _) (.str _)
        · rw [if_neg hc] at f3
          exact f3.elim
    | none => exact f3.elim
    | bool b => exact f3.elim
    | int b => exact f3.elim
    | str b => exact f3.elim
    | tuple b => exact f3.elim
    | dict b => exact f3.elim
/-! split at one sign -/
def splitL (c : Nat) : List Nat → List (List Nat)
  | [] => [[]]
  | x :: r => if x = c then [] :: splitL c r else match splitL c r with
    | [] => [[x]]
    | p :: q => (x :: p) :: q
def joinL (c : Nat) : List (List Nat) → List Nat
  | [] => []
  | [p] => p
  | p :: q => p ++ c :: joinL c q
theorem splitL_ne (c : Nat) : ∀ xs : List Nat, splitL c xs ≠ []
  | [] => by simp [splitL]
  | x :: r => by
    rw [splitL]
    split
    · simp
    · split
      · simp
      · simp
theorem splitL_app {c : Nat} : ∀ {p : List Nat}, c ∉ p → ∀ r : List Nat, splitL c (p ++ c :: r) = p :: splitL c r
  | [], _, r => by rw [List.nil_append, splitL, if_pos rfl]
  | x :: p, h, r => by
    have hx : x ≠ c := fun z => h (by rw [z]; exact List.mem_cons_self)
    rw [List.cons_append, splitL, if_neg hx, splitL_app (fun z => h (List.mem_cons_of_mem _ z)) r]
theorem splitL_free {c : Nat} : ∀ {p : List Nat}, c ∉ p → splitL c p = [p]
  | [], _ => rfl
  | x :: p, h => by
    have hx : x ≠ c := fun z => h (by rw [z]; exact List.mem_cons_self)
    rw [splitL, if_neg hx, splitL_free (fun z => h (List.mem_cons_of_mem _ z))]
theorem split_join {c : Nat} : ∀ {ps : List (List Nat)}, ps ≠ [] → (∀ p ∈ ps, c ∉ p) → splitL c (joinL c ps) = ps
  | [], h, _ => absurd rfl h
  | [p], _, h => splitL_free (h p (by simp))
  | p :: q :: r, _, h => by
    rw [joinL, splitL_app (h p (by simp)), split_join (by simp) fun z hz => h z (List.mem_cons_of_mem _ hz)]
    simp
theorem join_split' (c : Nat) : ∀ xs : List Nat, joinL c (splitL c xs) = xs
  | [] => rfl
  | x :: r => by
    have ih := join_split' c r
    have hn := splitL_ne c r
    rw [splitL]
    split
    · rename_i hx
      rw [hx]
      cases hs : splitL c r with
      | nil => exact absurd hs hn
      | cons p q =>
        rw [hs] at ih
        rw [joinL, ih]
        · rfl
        · simp
    · cases hs : splitL c r with
      | nil => exact absurd hs hn
      | cons p q =>
        rw [hs] at ih
        dsimp only
        cases q with
        | nil => rw [joinL] at ih ⊢; rw [ih]
        | cons a b =>
          rw [joinL] at ih ⊢
          · rw [List.cons_append, ih]
          · simp
          · simp
theorem join_list (c : Nat) : ∀ ps : List Str, (Str.join ⟨#[c]⟩ ps).cps.toList = joinL c (ps.map fun p => p.cps.toList)
  | [] => rfl
  | [p] => rfl
  | p :: q :: r => by
    show ((p ++ (⟨#[c]⟩ : Str) ++ Str.join ⟨#[c]⟩ (q :: r)) : Str).cps.toList = _
    have ih := join_list c (q :: r)
    have e : ∀ a b : Str, (a ++ b).cps.toList = a.cps.toList ++ b.cps.toList := fun a b => Array.toList_append
    rw [e, e, ih]
    simp [joinL]
theorem split_eq (z : Str) (c : Nat) : Txt.split z ⟨#[c]⟩ = (splitL c z.cps.toList).map fun l => ⟨l.toArray⟩ := by
  have h1 := StrLaws.join_split z ⟨#[c]⟩
  have h2 := StrLaws.split_free z c
  have h3 := split_pos z ⟨#[c]⟩
  generalize Txt.split z ⟨#[c]⟩ = ps at *
  have h4 := join_list c ps
  rw [h1] at h4
  have h5 : ps.map (fun p => p.cps.toList) ≠ [] := by
    cases ps with
    | nil => simp at h3
    | cons a b => simp
  have h6 := split_join h5 fun p hp => by
    obtain ⟨q, hq, rfl⟩ := List.mem_map.mp hp
    exact h2 q hq
  rw [h4, h6, List.map_map]
  have : (fun l => (⟨l.toArray⟩ : Str)) ∘ (fun p : Str => p.cps.toList) = id := by
    funext p
    exact (str_of_list rfl).symm
  rw [this, List.map_id]
def splitT (z : Str) (c : Nat) : List Str := (splitL c z.cps.toList).map fun l => ⟨l.toArray⟩
@[simp] def mSplitV (i : Nat) (c : Nat) (st : ST) : R RV := match st.sl[i]? with
  | some (.dat (.str z)) => if z.length ≤ 100000 then .ok (.dat (.list ((splitT z c).map .str))) st else .stuck
  | _ => .stuck
theorem je_splitV {i j c : Nat} {x : Str} {sep : String} {px ps : Pos} (hN : X.N[i]? = some x := by rfl) (hv : Vis X.env.scope x := by first | exact Or.inl rfl | exact Or.inr (Or.inl rfl) | exact Or.inr (Or.inr rfl)) (hd : (x == ("__debug__" : Str)) = false := by decide) (hcd : (x == ("__classdict__" : Str)) = false := by decide)
    (hsep : Str.ofString sep = ⟨#[c]⟩ := by exact (PySem.Str.ext' (by decide +kernel)))
    (hs : starEach [.Constant (.str sep) j ps] X.env = [(false, eval (.Constant (.str sep) j ps) X.env)] := by rfl) (hbase : attributeBase (.Name x px) "split" X.env (eval (.Name x px) X.env) = eval (.Name x px) X.env := by rfl) (hline : (apos.endLine == pos.line) = true := by rfl) :
    JE X N W (.Call (.Attribute (.Name x px) "split" apos) [.Constant (.str sep) j ps] [] pos) (mSplitV i c) := by
  refine PE.weak (pe_split (pe_var hN hv hd hcd) pe_str hs hbase hline) fun σ H Q ⟨L, as1, st, rel, h⟩ => ?_
  unfold mSplitV at h
  split at h
  · rename_i z e1
    split at h
    · rename_i hl
      obtain ⟨v, w1, a1⟩ := rel.dat i _ e1
      cases a1
      refine ⟨_, w1, ⟨z, rfl⟩, ?_⟩
      refine ⟨z, Str.ofString sep, rfl, rfl, by rw [hsep]; rfl, ?_, fun p np => ?_⟩
      · have : (200000 : Nat) ≤ sizeLine := by decide
        omega
      · rw [hsep, split_eq]
        exact fin_dat rel h (same_new np) (at_new rel.live np (ats_strs _))
    · exact h.elim
  · exact h.elim
/-! f-strings -/
@[simp] def mFmt (ma : M RV) (st0 : ST) : R RV := (ma.bind fun a => fun st => match st.look a with
  | some (.str y) => if y.length ≤ maxLen then .ok (.dat (.str y)) st else .stuck
  | some (.int i) => if 0 ≤ i ∧ i < 1000 then .ok (.dat (.str (decS i.toNat))) st else .stuck
  | _ => .stuck) st0
theorem je_fmt (he : JE X N W e ma) : JE X N W (.FormattedValue e (-1) none pos) (mFmt ma) := by
  refine PE.weak (pe_fmt he) fun σ H Q ⟨L, as1, st, rel, h⟩ => ?_
  refine sem_mono (fin_bind (P1 := VRel) rel h) fun v H1 ⟨L3, as3, s3, rv3, r3, v3, x3, f3⟩ => ?_
  split at f3
  · rename_i y e1
    split at f3
    · rename_i hl
      exact .inl ⟨y, (r3.look v3 e1).str, small_max hl, fin_dat r3 f3 (Same.refl _) (.str _)⟩
    · exact f3.elim
  · rename_i i e1
    split at f3
    · rename_i hc
      have hn : i.toNat < 1000 := by omega
      have e : ((i.toNat : Nat) : Int) = i := Int.toNat_of_nonneg hc.1
      have hs := decS_eq hn
      rw [e] at hs
      refine .inr ⟨i, (r3.look v3 e1).int, ?_, ?_⟩
      · rw [show i.natAbs = i.toNat by omega]
        exact nat_log hn
      · rw [hs]
        exact fin_dat r3 f3 (Same.refl _) (.str _)
    · exact f3.elim
  · exact f3.elim
inductive JJ (X : Cx) (N : Ent) (W : WX) : List Expr → List (M RV) → Prop
  | nil : JJ X N W [] []
  | cons {e : Expr} {m : M RV} {es : List Expr} {ms : List (M RV)} : JE X N W e m → JJ X N W es ms → JJ X N W (e :: es) (m :: ms)
theorem JJ.pj : ∀ {es : List Expr} {ms : List (M RV)}, JJ X N W es ms → PJ X es (ms.map fun m => semE N W m)
  | _, _, .nil => .nil
  | _, _, .cons h r => .cons h (JJ.pj r)
def mJs : List (M RV) → Str → ST → R RV
  | [], acc, st => .ok (.dat (.str acc)) st
  | m :: r, acc, st => (m.bind fun a => fun st => match st.look a with
    | some (.str y) => if (acc ++ y).length ≤ maxLen then mJs r (acc ++ y) st else .stuck
    | _ => .stuck) st
theorem js_core : ∀ (ms : List (M RV)) (acc : Str) {L : List Addr} {as1 : List (List Addr)} {st : ST} {σ : L2.St} {H : Hp} {Q : VK}, Rel N L as1 st σ H → Fin N W VRel L as1 σ H (mJs ms acc st) Q → tJs (ms.map fun m => semE N W m) acc σ H fun out H1 => Q (.str out) H1
  | [], acc, L, as1, st, σ, H, Q, r, h => fin_dat r h (Same.refl _) (.str _)
  | m :: ms, acc, L, as1, st, σ, H, Q, r, h => by
    refine sem_mono (fin_bind (P1 := VRel) r h) fun v H1 ⟨L3, as3, s3, rv3, r3, v3, x3, f3⟩ => ?_
    split at f3
    · rename_i y e1
      split at f3
      · rename_i hl
        exact ⟨y, (r3.look v3 e1).str, small_max hl, js_core ms (acc ++ y) r3 f3⟩
      · exact f3.elim
    · exact f3.elim
@[simp] def mFStr (ms : List (M RV)) (st : ST) : R RV := mJs ms Str.empty st
theorem je_fstr {v1 v2 : Expr} {ms : List (M RV)} (h : JJ X N W (v1 :: v2 :: es) ms) : JE X N W (.JoinedStr (v1 :: v2 :: es) pos) (mFStr ms) :=
  PE.weak (pe_joined h.pj) fun σ H Q ⟨L, as1, st, rel, h⟩ => js_core ms Str.empty rel h
/-! text * int -/
@[simp] def mulSD : PyData → PyData → Option PyData
  | .str z, .int k => if 1 < k ∧ k ≤ 1000 ∧ 0 < z.length ∧ z.length ≤ 1000 then some (.str ⟨(List.replicate k.toNat z.cps.toList).flatten.toArray⟩) else none
  | _, _ => none
def rMulS : R2 := fun x y H Q => ∃ z k, x = .str z ∧ y = .int k ∧ 1 < k ∧ k ≤ 1000 ∧ 0 < z.length ∧ z.length ≤ 1000 ∧ Q (.str ⟨(List.replicate k.toNat z.cps.toList).flatten.toArray⟩) H
theorem rep_flat (z : Array Nat) : ∀ (n : Nat) (acc : Array Nat), (List.replicate n z).foldl (· ++ ·) acc = acc ++ (List.replicate n z.toList).flatten.toArray
  | 0, acc => by simp
  | n + 1, acc => by
    rw [List.replicate_succ, List.foldl_cons, rep_flat z n, List.replicate_succ, List.flatten_cons]
    apply Array.toList_inj.mp
    simp
theorem op_mulS : OpR X (binaryOp .Mult) rMulS := by
  intro pins s σ H x y v u Q I rx ry h
  obtain ⟨z, k, rfl, rfl, h1, h2, h3, h4, q⟩ := h
  obtain ⟨t, rfl⟩ := rx
  obtain ⟨t2, rfl⟩ := ry
  have hz : (List.replicate k.toNat z.cps).foldl (· ++ ·) #[] = (List.replicate k.toNat z.cps.toList).flatten.toArray := by rw [rep_flat]; simp
  have hm : z.length * k.toNat ≤ 1000 * 1000 := Nat.mul_le_mul h4 (by omega)
  refine PySem.P.mul_str ?_ ?_ ?_ ?_
  · rw [decide_eq_false (by omega), decide_eq_false (by omega)]; rfl
  · intro _ _
    have : (1000 : Int) ≤ (2 ^ 63 - 1) / k := by
      rw [Int.le_ediv_iff_mul_le (by omega)]
      omega
    omega
  · intro _ _
    have : (1000 * 1000 : Nat) ≤ sizeLine := by decide
    exact decide_eq_false (Nat.not_lt.mpr (Nat.le_trans hm this))
  · rw [if_neg (by omega), if_neg (by
      rw [Bool.or_eq_true]
      rintro (e | e)
      · have : k = 1 := by simpa using e
        omega
      · have : z.length = 0 := by simpa using e
        omega)]
    rw [hz]
    refine ⟨?_, .str _, H, I.tok _, ⟨_, rfl⟩, q⟩
    have hl : (List.replicate k.toNat z.cps.toList).flatten.length = k.toNat * z.length := by simp [Str.length]
    show (List.replicate k.toNat z.cps.toList).flatten.toArray.size ≤ sizeLine
    rw [List.size_toArray, hl, Nat.mul_comm]
    exact Nat.le_trans hm (by decide)
theorem pure_mulS : Pure2 rMulS mulSD := by
  intro x y H L Q d e g live hx hy he k
  unfold mulSD at he
  split at he
  · rename_i z i
    split at he
    · rename_i hc
      cases he
      exact ⟨z, i, hx.str, hy.int, hc.1, hc.2.1, hc.2.2.1, hc.2.2.2, k _ _ (Same.refl _) (.str _)⟩
    · cases he
  · cases he
theorem je_globT {x : Str} {z : Str} (hm : ∃ t, X.mg x = some (.str z t)) (hg : Gl X x := by rfl) (hd : (x == ("__debug__" : Str)) = false := by decide) : JE X N W (.Name x pos) (mC (.str z)) := by
  obtain ⟨t, h⟩ := hm
  exact je_c (pe_glob hg h (v := .str z) ⟨t, rfl⟩ hd) fun _ => .str z
end
end JL
/-! J69: a tuple display that is a whole tuple. -/
namespace JL
open PySem PySem.Spec PyProof.Rows L2
section
variable {X : Cx} {N : Ent} {W : WX} {es : List Expr} {t : TA} {mr : M (List RV)} {pos : Pos} {k1 : Nat}
theorem pair_ints {H : Hp} {L : List Addr} : ∀ {ns : List Int} {vs : List V}, Paired (Rdb H L) vs (ns.map .int) → vs = ns.map V.int
  | [], _, .nil => rfl
  | n :: ns, _, .cons h1 h2 => by rw [h1.int, pair_ints h2]; rfl
def tTupF (t : TA) : TE := fun σ H Q => t σ H fun xs H1 => xs.length ≤ sizeLine ∧ ∀ (p : Addr) (o : Obj), H1 p = none → o.dict = none → Q (.ref p) (upd H1 p (.frz o (.tup xs)))
theorem pe_tupF (h : PA X es t) : PE X (.Tuple es k1 pos) (tTupF t) := by
  refine ⟨fun pins s σ H Q I hq => ?_⟩
  have run := h.run pos pins s σ H _ I hq
  refine wpAny_Tuple_spliced (thn run fun us s1 ⟨xs, H1, I1, r, z, q⟩ => ⟨by rw [← r.length]; exact z, ?_⟩)
  have nf : H1 s1.heap.objs.size = none := I1.hok.fresh (Nat.le_refl _)
  have at1 : (s1.heap.push { cls := .type "tuple", data := .seq us.toArray }).get? s1.heap.objs.size = some { cls := .type "tuple", data := .seq us.toArray } := Heap.get?_push_size _ rfl
  have new : ObjOk X.prog X.w (upd H1 s1.heap.objs.size (.frz { cls := .type "tuple", data := .seq us.toArray } (.tup xs))) (s1.heap.push { cls := .type "tuple", data := .seq us.toArray }) s1.heap.objs.size (.frz { cls := .type "tuple", data := .seq us.toArray } (.tup xs)) :=
    ⟨at1, z, us, r, IsTup.new _ _⟩
  exact ⟨.ref s1.heap.objs.size, _, I1.laid (t' := s1.toks) (fun b u e => Heap.get?_push_of_some _ e) (Nat.le_refl _) new, rfl, q _ _ nf rfl⟩
@[simp] def mTplD (mr : M (List RV)) (st0 : ST) : R RV := (mr.bind fun rs => fun st => match (lookAll st rs).bind intsOf with
  | some ns => if ns.length ≤ 1000 then mDnew (.tpl ns) st else .stuck
  | none => .stuck) st0
theorem je_tplD (ha : JA X N W es mr) : JE X N W (.Tuple es k1 pos) (mTplD mr) := by
  refine PE.weak (pe_tupF ha) fun σ H Q ⟨L, as1, st, rel, h⟩ => ?_
  refine sem_mono (fin_bind (P1 := VRels) rel h) fun vs H1 ⟨L3, as3, s3, rs, r3, v3, x3, f3⟩ => ?_
  cases e1 : lookAll s3 rs with
  | none => rw [e1] at f3; exact f3.elim
  | some dd =>
    rw [e1] at f3
    have pr := r3.lookAll v3 e1
    simp only [Option.bind_some] at f3
    cases e2 : intsOf dd with
    | none => rw [e2] at f3; exact f3.elim
    | some ns =>
      rw [e2] at f3
      dsimp only at f3
      split at f3
      · rename_i hl
        have hd := intsOf_eq e2
        subst hd
        have hv : vs = ns.map V.int := pair_ints pr
        subst hv
        exact ⟨by rw [List.length_map]; exact Nat.le_of_lt (small1000 hl), fun q o nq hd => fin_dnew r3 f3 nq ⟨q, o, rfl, upd_same, hd⟩⟩
      · exact f3.elim
end
end JL
namespace Tx
open PySem PySem.Spec PyProof.Rows L2 JL
def topS (i : Nat) : Stmt := PySem.Challenge.pw_treeorders_k19_whole_texts.main.body.getD i (.Pass ⟨0, 0, 0, 0⟩)
abbrev s_is_int : Stmt := topS 11
abbrev s_is_key : Stmt := topS 12
abbrev s_is_order : Stmt := topS 13
abbrev s_check_order : Stmt := topS 14
abbrev s_is_part : Stmt := topS 16
abbrev s_is_tree : Stmt := topS 17
abbrev s_check_tree : Stmt := topS 18
abbrev s_written : Stmt := topS 21
abbrev s_format_tree : Stmt := topS 22
abbrev s_read_number : Stmt := topS 23
abbrev s_expect : Stmt := topS 24
abbrev s_read_tree : Stmt := topS 25
abbrev s_parse_tree : Stmt := topS 26
abbrev s_format_order : Stmt := topS 27
abbrev s_parse_order : Stmt := topS 28
abbrev s_law_start : Stmt := topS 30
abbrev s_law_draw : Stmt := topS 31
abbrev s_law_pick : Stmt := topS 32
abbrev s_law_error : Stmt := topS 33
abbrev s_law_order : Stmt := topS 34
abbrev s_law_leaf : Stmt := topS 35
abbrev s_law_tree : Stmt := topS 36
abbrev s_law_written : Stmt := topS 37
abbrev s_law_words : Stmt := topS 38
abbrev s_law_parsed : Stmt := topS 39
abbrev s_law_rejected : Stmt := topS 40
abbrev s_law : Stmt := topS 41
set_option genInjectivity false in
set_option genSizeOf false in
set_option genSizeOfSpec false in
structure Txt (K : PySem.W.Frag) (mg : Str → Option Value) where
  cls : Cl
  er : Errs K mg cls
  a_is_int : Addr
  d_is_int : FuncData
  F_is_int : Fun K "is_int" "is_int" s_is_int a_is_int d_is_int
  g_is_int : mg "is_int" = some (.ref a_is_int)
  e_is_int : ∀ us : List Value, us.length = (["value", "low", "high"] : List Str).length → bindArgs d_is_int ⟨us, []⟩ = pure ((["value", "low", "high"] : List Str).zip us)
  a_is_key : Addr
  d_is_key : FuncData
  F_is_key : Fun K "is_key" "is_key" s_is_key a_is_key d_is_key
  g_is_key : mg "is_key" = some (.ref a_is_key)
  e_is_key : ∀ us : List Value, us.length = (["value"] : List Str).length → bindArgs d_is_key ⟨us, []⟩ = pure ((["value"] : List Str).zip us)
  a_is_order : Addr
  d_is_order : FuncData
  F_is_order : Fun K "is_order" "is_order" s_is_order a_is_order d_is_order
  g_is_order : mg "is_order" = some (.ref a_is_order)
  e_is_order : ∀ us : List Value, us.length = (["value"] : List Str).length → bindArgs d_is_order ⟨us, []⟩ = pure ((["value"] : List Str).zip us)
  a_check_order : Addr
  d_check_order : FuncData
  F_check_order : Fun K "check_order" "check_order" s_check_order a_check_order d_check_order
  g_check_order : mg "check_order" = some (.ref a_check_order)
  e_check_order : ∀ us : List Value, us.length = (["value"] : List Str).length → bindArgs d_check_order ⟨us, []⟩ = pure ((["value"] : List Str).zip us)
  a_is_part : Addr
  d_is_part : FuncData
  F_is_part : Fun K "is_part" "is_part" s_is_part a_is_part d_is_part
  g_is_part : mg "is_part" = some (.ref a_is_part)
  e_is_part : ∀ us : List Value, us.length = (["value", "low", "high", "room"] : List Str).length → bindArgs d_is_part ⟨us, []⟩ = pure ((["value", "low", "high", "room"] : List Str).zip us)
  a_is_tree : Addr
  d_is_tree : FuncData
  F_is_tree : Fun K "is_tree" "is_tree" s_is_tree a_is_tree d_is_tree
  g_is_tree : mg "is_tree" = some (.ref a_is_tree)
  e_is_tree : ∀ us : List Value, us.length = (["value"] : List Str).length → bindArgs d_is_tree ⟨us, []⟩ = pure ((["value"] : List Str).zip us)
  a_check_tree : Addr
  d_check_tree : FuncData
  F_check_tree : Fun K "check_tree" "check_tree" s_check_tree a_check_tree d_check_tree
  g_check_tree : mg "check_tree" = some (.ref a_check_tree)
  e_check_tree : ∀ us : List Value, us.length = (["tree"] : List Str).length → bindArgs d_check_tree ⟨us, []⟩ = pure ((["tree"] : List Str).zip us)
  a_written : Addr
  d_written : FuncData
  F_written : Fun K "written" "written" s_written a_written d_written
  g_written : mg "written" = some (.ref a_written)
  e_written : ∀ us : List Value, us.length = (["tree"] : List Str).length → bindArgs d_written ⟨us, []⟩ = pure ((["tree"] : List Str).zip us)
  a_format_tree : Addr
  d_format_tree : FuncData
  F_format_tree : Fun K "format_tree" "format_tree" s_format_tree a_format_tree d_format_tree
  g_format_tree : mg "format_tree" = some (.ref a_format_tree)
  e_format_tree : ∀ us : List Value, us.length = (["tree"] : List Str).length → bindArgs d_format_tree ⟨us, []⟩ = pure ((["tree"] : List Str).zip us)
  a_read_number : Addr
  d_read_number : FuncData
  F_read_number : Fun K "read_number" "read_number" s_read_number a_read_number d_read_number
  g_read_number : mg "read_number" = some (.ref a_read_number)
  e_read_number : ∀ us : List Value, us.length = (["text", "at"] : List Str).length → bindArgs d_read_number ⟨us, []⟩ = pure ((["text", "at"] : List Str).zip us)
  a_expect : Addr
  d_expect : FuncData
  F_expect : Fun K "expect" "expect" s_expect a_expect d_expect
  g_expect : mg "expect" = some (.ref a_expect)
  e_expect : ∀ us : List Value, us.length = (["text", "at", "sign"] : List Str).length → bindArgs d_expect ⟨us, []⟩ = pure ((["text", "at", "sign"] : List Str).zip us)
  a_read_tree : Addr
  d_read_tree : FuncData
  F_read_tree : Fun K "read_tree" "read_tree" s_read_tree a_read_tree d_read_tree
  g_read_tree : mg "read_tree" = some (.ref a_read_tree)
  e_read_tree : ∀ us : List Value, us.length = (["text", "at", "depth"] : List Str).length → bindArgs d_read_tree ⟨us, []⟩ = pure ((["text", "at", "depth"] : List Str).zip us)
  a_parse_tree : Addr
  d_parse_tree : FuncData
  F_parse_tree : Fun K "parse_tree" "parse_tree" s_parse_tree a_parse_tree d_parse_tree
  g_parse_tree : mg "parse_tree" = some (.ref a_parse_tree)
  e_parse_tree : ∀ us : List Value, us.length = (["text"] : List Str).length → bindArgs d_parse_tree ⟨us, []⟩ = pure ((["text"] : List Str).zip us)
  a_format_order : Addr
  d_format_order : FuncData
  F_format_order : Fun K "format_order" "format_order" s_format_order a_format_order d_format_order
  g_format_order : mg "format_order" = some (.ref a_format_order)
  e_format_order : ∀ us : List Value, us.length = (["order"] : List Str).length → bindArgs d_format_order ⟨us, []⟩ = pure ((["order"] : List Str).zip us)
  a_parse_order : Addr
  d_parse_order : FuncData
  F_parse_order : Fun K "parse_order" "parse_order" s_parse_order a_parse_order d_parse_order
  g_parse_order : mg "parse_order" = some (.ref a_parse_order)
  e_parse_order : ∀ us : List Value, us.length = (["text"] : List Str).length → bindArgs d_parse_order ⟨us, []⟩ = pure ((["text"] : List Str).zip us)
  a__law_start : Addr
  d__law_start : FuncData
  F__law_start : Fun K "_law_start" "_law_start" s_law_start a__law_start d__law_start
  g__law_start : mg "_law_start" = some (.ref a__law_start)
  e__law_start : ∀ us : List Value, us.length = (["script"] : List Str).length → bindArgs d__law_start ⟨us, []⟩ = pure ((["script"] : List Str).zip us)
  a__law_draw : Addr
  d__law_draw : FuncData
  F__law_draw : Fun K "_law_draw" "_law_draw" s_law_draw a__law_draw d__law_draw
  g__law_draw : mg "_law_draw" = some (.ref a__law_draw)
  e__law_draw : ∀ us : List Value, us.length = (["draws", "limit"] : List Str).length → bindArgs d__law_draw ⟨us, []⟩ = pure ((["draws", "limit"] : List Str).zip us)
  a__law_pick : Addr
  d__law_pick : FuncData
  F__law_pick : Fun K "_law_pick" "_law_pick" s_law_pick a__law_pick d__law_pick
  g__law_pick : mg "_law_pick" = some (.ref a__law_pick)
  e__law_pick : ∀ us : List Value, us.length = (["draws", "choices"] : List Str).length → bindArgs d__law_pick ⟨us, []⟩ = pure ((["draws", "choices"] : List Str).zip us)
  a__law_error : Addr
  d__law_error : FuncData
  F__law_error : Fun K "_law_error" "_law_error" s_law_error a__law_error d__law_error
  g__law_error : mg "_law_error" = some (.ref a__law_error)
  e__law_error : ∀ us : List Value, us.length = (["caught"] : List Str).length → bindArgs d__law_error ⟨us, []⟩ = pure ((["caught"] : List Str).zip us)
  a__law_order : Addr
  d__law_order : FuncData
  F__law_order : Fun K "_law_order" "_law_order" s_law_order a__law_order d__law_order
  g__law_order : mg "_law_order" = some (.ref a__law_order)
  e__law_order : ∀ us : List Value, us.length = (["draws", "most"] : List Str).length → bindArgs d__law_order ⟨us, []⟩ = pure ((["draws", "most"] : List Str).zip us)
  a__law_leaf : Addr
  d__law_leaf : FuncData
  F__law_leaf : Fun K "_law_leaf" "_law_leaf" s_law_leaf a__law_leaf d__law_leaf
  g__law_leaf : mg "_law_leaf" = some (.ref a__law_leaf)
  e__law_leaf : ∀ us : List Value, us.length = (["tree", "key"] : List Str).length → bindArgs d__law_leaf ⟨us, []⟩ = pure ((["tree", "key"] : List Str).zip us)
  a__law_tree : Addr
  d__law_tree : FuncData
  F__law_tree : Fun K "_law_tree" "_law_tree" s_law_tree a__law_tree d__law_tree
  g__law_tree : mg "_law_tree" = some (.ref a__law_tree)
  e__law_tree : ∀ us : List Value, us.length = (["order"] : List Str).length → bindArgs d__law_tree ⟨us, []⟩ = pure ((["order"] : List Str).zip us)
  a__law_written : Addr
  d__law_written : FuncData
  F__law_written : Fun K "_law_written" "_law_written" s_law_written a__law_written d__law_written
  g__law_written : mg "_law_written" = some (.ref a__law_written)
  e__law_written : ∀ us : List Value, us.length = (["tree"] : List Str).length → bindArgs d__law_written ⟨us, []⟩ = pure ((["tree"] : List Str).zip us)
  a__law_words : Addr
  d__law_words : FuncData
  F__law_words : Fun K "_law_words" "_law_words" s_law_words a__law_words d__law_words
  g__law_words : mg "_law_words" = some (.ref a__law_words)
  e__law_words : ∀ us : List Value, us.length = (["order"] : List Str).length → bindArgs d__law_words ⟨us, []⟩ = pure ((["order"] : List Str).zip us)
  a__law_parsed : Addr
  d__law_parsed : FuncData
  F__law_parsed : Fun K "_law_parsed" "_law_parsed" s_law_parsed a__law_parsed d__law_parsed
  g__law_parsed : mg "_law_parsed" = some (.ref a__law_parsed)
  e__law_parsed : ∀ us : List Value, us.length = (["kind", "text"] : List Str).length → bindArgs d__law_parsed ⟨us, []⟩ = pure ((["kind", "text"] : List Str).zip us)
  a__law_rejected : Addr
  d__law_rejected : FuncData
  F__law_rejected : Fun K "_law_rejected" "_law_rejected" s_law_rejected a__law_rejected d__law_rejected
  g__law_rejected : mg "_law_rejected" = some (.ref a__law_rejected)
  e__law_rejected : ∀ us : List Value, us.length = ([] : List Str).length → bindArgs d__law_rejected ⟨us, []⟩ = pure (([] : List Str).zip us)
  a_law : Addr
  d_law : FuncData
  F_law : Fun K "law" "law" s_law a_law d_law
  g_law : mg "law" = some (.ref a_law)
  e_law : ∀ us : List Value, us.length = (["script"] : List Str).length → bindArgs d_law ⟨us, []⟩ = pure ((["script"] : List Str).zip us)
  z_ValueError : mg "ValueError" = none
  z_all : mg "all" = none
  z_bool : mg "bool" = none
  z_int : mg "int" = none
  z_isinstance : mg "isinstance" = none
  z_len : mg "len" = none
  z_list : mg "list" = none
  z_range : mg "range" = none
  z_sorted : mg "sorted" = none
  z_str : mg "str" = none
  z_tuple : mg "tuple" = none
  c_MOST_KEY : ∃ t, mg "MOST_KEY" = some (.int 99 t)
  c_MOST_KEYS : ∃ t, mg "MOST_KEYS" = some (.int 9 t)
  c_DIGITS : ∃ t, mg "DIGITS" = some (.str "0123456789" t)
section
variable {P : Program} {w : World} {K : PySem.W.Frag} {mg : Str → Option Value} {base : Heap}
theorem sc_is_int : FnScope ["value", "low", "high"] ["value", "low", "high"] (defScope s_is_int) := ⟨rfl, rfl, rfl, by decide +kernel, rfl, by decide +kernel, by decide +kernel⟩
def m_is_int : M Flw :=
    mRet (mAndV (mOp1 (isiD "int") (mVar 0)) (mAndV (mNotV (mOp1 (isiD "bool") (mVar 0))) (mChain (cmpD leI) (cmpD leI) (mVar 1) (mVar 0) (mVar 2))))
def F_is_int : FS := runF 3 m_is_int
theorem ok_is_int (T : Txt K mg) : FnOk P w K mg base (L2.CX P w) 1 T.a_is_int T.d_is_int ["value", "low", "high"] (spF T.cls 3 F_is_int) :=
  fn_ok (Nn := ["value", "low", "high"]) (k := 0) T.cls T.F_is_int sc_is_int fun cdv A outer s H E hr as0 L0 =>
    js_one (js_ret (je_and (je_isi (T := "int") rfl isi_int (.inl rfl) (je_var 0) T.z_isinstance T.z_int (by decide +kernel)) (je_and (je_not (je_isi (T := "bool") rfl isi_bool (.inr (.inl rfl)) (je_var 0) T.z_isinstance T.z_bool (by decide +kernel))) (je_one (je_chain op_le op_le (bool_cmp leI) (pure_cmp leI) (je_var 1) (je_var 0) (je_var 2))))))
theorem sc_is_key : FnScope ["value"] ["value"] (defScope s_is_key) := ⟨rfl, rfl, rfl, by decide +kernel, rfl, by decide +kernel, by decide +kernel⟩
def m_is_key : M Flw :=
    mRet (mFn 3 F_is_int (mCons (mVar 0) (mCons (mC (.int 0)) (mCons (mC (.int 99)) (mNil)))))
def F_is_key : FS := runF 1 m_is_key
theorem ok_is_key (T : Txt K mg) : FnOk P w K mg base (L2.CX P w) 2 T.a_is_key T.d_is_key ["value"] (spF T.cls 1 F_is_key) :=
  fn_ok (Nn := ["value"]) (k := 1) T.cls T.F_is_key sc_is_key fun cdv A outer s H E hr as0 L0 =>
    js_one (js_ret (je_call (ok_is_int T) rfl (hr.mono (by decide)) T.g_is_int T.F_is_int.kp (Binds.all T.e_is_int) (takes_of rfl rfl rfl rfl) (ja_cons (je_var 0) (ja_cons (je_int) (ja_cons (je_globC T.c_MOST_KEY) (ja_nil))))))
theorem sc_is_order : FnScope ["value", "key"] ["value"] (defScope s_is_order) := ⟨rfl, rfl, rfl, by decide +kernel, rfl, by decide +kernel, by decide +kernel⟩
abbrev e_is_order_0 : M RV :=
    mFn 1 F_is_key (mCons (mVar 1) (mNil))
def m_is_order : M Flw :=
    mThen (mIf (mOr (mNot (mTest (mOp1 (isiD "list") (mVar 0)))) (mOr (mTest (mOp2 (cmpD gtI) (mCall lenD (mCons (mVar 0) (mNil))) (mC (.int 9)))) (mNot (mTest (mCall allD (mCons (mLc [1] 1 (mVar 0) (mYes) (e_is_order_0)) (mNil))))))) (mRet (mC (.bool false))) (mNx))
    (mRet (mOp2 eqD (mLenDC 1 (mVar 0)) (mCall lenD (mCons (mVar 0) (mNil)))))
def F_is_order : FS := runF 2 m_is_order
theorem ok_is_order (T : Txt K mg) : FnOk P w K mg base (L2.CX P w) 3 T.a_is_order T.d_is_order ["value"] (spF T.cls 1 F_is_order) :=
  fn_ok (Nn := ["value", "key"]) (k := 2) T.cls T.F_is_order sc_is_order fun cdv A outer s H E hr as0 L0 =>
    js_cons (js_if (JW.jt (jw_or (jt_not (jt_val (je_isi (T := "list") rfl isi_list (.inr (.inr (.inl rfl))) (je_var 0) T.z_isinstance T.z_list (by decide +kernel)))) (jw_or (jt_cmp op_gt (pure_cmp gtI) (je_callB call_lenA pure_len T.z_len PySem.boot_len (ja_cons (je_var 0) (ja_nil))) (je_globC T.c_MOST_KEYS)) (jw_or1 (jt_not (jt_val (je_callB (cr_all rfl) pure_all T.z_all (by decide +kernel) (ja_cons (je_lc (i := 1) (own := [("key", 1)]) sc_is_order.nd (je_var 0) (blkOk_by (own := [("key", 1)]) (N := ["value", "key"]) (sc := defScope s_is_order) (by decide +kernel)) (fun _ _ _ _ _ => pg_name (i := 1) sc_is_order.nd rfl (by first | exact Or.inl rfl | exact Or.inr rfl)) (fun _ _ _ _ _ => jts_nil) (fun _ _ _ _ _ => je_call (ok_is_key T) rfl (hr.mono (by decide)) T.g_is_key T.F_is_key.kp (Binds.all T.e_is_key) takes0 (ja_cons (je_var 1) (ja_nil)))) (ja_nil))))))))) (js_one (js_ret (je_bl))) (js_nil))
    (js_one (js_ret (je_cmp (op_eqD hr.units) pure_eq (je_lenDC (i := 1) (own := [("key", 1)]) sc_is_order.nd T.z_len (je_var 0) (blkOk_by (own := [("key", 1)]) (N := ["value", "key"]) (sc := defScope s_is_order) (by decide +kernel)) (fun _ _ _ _ _ => pg_name (i := 1) sc_is_order.nd rfl (Or.inl rfl)) (fun _ _ _ _ _ => pv 1)) (je_callB call_lenA pure_len T.z_len PySem.boot_len (ja_cons (je_var 0) (ja_nil))))))
theorem sc_check_order : FnScope ["value"] ["value"] (defScope s_check_order) := ⟨rfl, rfl, rfl, by decide +kernel, rfl, by decide +kernel, by decide +kernel⟩
def m_check_order : M Flw :=
    mIf (mNot (mTest (mFn 1 F_is_order (mCons (mVar 0) (mNil))))) (mRaise 3) (mNx)
def F_check_order : FS := runF 1 m_check_order
theorem ok_check_order (T : Txt K mg) : FnOk P w K mg base (L2.CX P w) 4 T.a_check_order T.d_check_order ["value"] (spF T.cls 1 F_check_order) :=
  fn_ok (Nn := ["value"]) (k := 3) T.cls T.F_check_order sc_check_order fun cdv A outer s H E hr as0 L0 =>
    js_one (js_if (jt_not (jt_val (je_call (ok_is_order T) rfl (hr.mono (by decide)) T.g_is_order T.F_is_order.kp (Binds.all T.e_is_order) (takes_of rfl rfl rfl rfl) (ja_cons (je_var 0) (ja_nil))))) (js_one (js_raiseE T.er rfl 3 rfl (takes_of rfl rfl rfl rfl))) (js_nil))
theorem sc_is_part : FnScope ["value", "low", "high", "room", "left", "right"] ["value", "low", "high", "room"] (defScope s_is_part) := ⟨rfl, rfl, rfl, by decide +kernel, rfl, by decide +kernel, by decide +kernel⟩
def m_is_part (self : FS) : M Flw :=
    mThen (mIf (mTest (mOp2 isND (mVar 0) (mC .none))) (mRet (mC (.int 0))) (mNx))
    (mThen (mIf (mOr (mTest (mOp2 eqD (mVar 3) (mC (.int 0)))) (mOr (mNot (mTest (mOp1 (isiD "tuple") (mVar 0)))) (mTest (mOp2 neD (mCall lenD (mCons (mVar 0) (mNil))) (mC (.int 3)))))) (mRet (mC .none)) (mNx))
    (mThen (mIf (mOr (mNot (mTest (mFn 1 F_is_key (mCons (mOp2 ixD (mVar 0) (mC (.int 0))) (mNil))))) (mNot (mTest (mChain (cmpD ltI) (cmpD ltI) (mVar 1) (mOp2 ixD (mVar 0) (mC (.int 0))) (mVar 2))))) (mRet (mC .none)) (mNx))
    (mThen (mSet 4 (mFn 4 self (mCons (mOp2 ixD (mVar 0) (mC (.int 1))) (mCons (mVar 1) (mCons (mOp2 ixD (mVar 0) (mC (.int 0))) (mCons (mOp2 subD (mVar 3) (mC (.int 1))) (mNil)))))))
    (mThen (mIf (mTest (mOp2 isND (mVar 4) (mC .none))) (mRet (mC .none)) (mNx))
    (mThen (mSet 5 (mFn 4 self (mCons (mOp2 ixD (mVar 0) (mC (.int 2))) (mCons (mOp2 ixD (mVar 0) (mC (.int 0))) (mCons (mVar 2) (mCons (mOp2 subD (mOp2 subD (mVar 3) (mC (.int 1))) (mVar 4)) (mNil)))))))
    (mRet (mIf (mTest (mOp2 isND (mVar 5) (mC .none))) (mC .none) (mOp2 addD (mOp2 addD (mVar 4) (mC (.int 1))) (mVar 5)))))))))
def f_is_part : Nat → FS
  | 0 => fun _ _ => .stuck
  | n + 1 => runF 6 (m_is_part (f_is_part n))
def F_is_part : FS := f_is_part 15
theorem okn_is_part (T : Txt K mg) : ∀ n : Nat, FnOk P w K mg base (L2.CX P w) (n + 2) T.a_is_part T.d_is_part ["value", "low", "high", "room"] (spF T.cls 4 (f_is_part n))
  | 0 => fn_stuck
  | n + 1 => by
    have G := okn_is_part T n
    exact (fn_ok (Nn := ["value", "low", "high", "room", "left", "right"]) (k := n + 2) T.cls T.F_is_part sc_is_part fun cdv A outer s H E hr as0 L0 =>
    js_cons (js_if (jt_cmp op_isN pure_isN (je_var 0) (je_non)) (js_one (js_ret (je_int))) (js_nil))
    (js_cons (js_if (JW.jt (jw_or (jt_cmp (op_eqD hr.units) pure_eq (je_var 3) (je_int)) (jw_or (jt_not (jt_val (je_isi (T := "tuple") rfl isi_tuple (.inr (.inr (.inr (.inl rfl)))) (je_var 0) T.z_isinstance T.z_tuple (by decide +kernel)))) (jw_or1 (jt_cmp (op_neD hr.units) pure_ne (je_callB call_lenA pure_len T.z_len PySem.boot_len (ja_cons (je_var 0) (ja_nil))) (je_int)))))) (js_one (js_ret (je_non))) (js_nil))
    (js_cons (js_if (JW.jt (jw_or (jt_not (jt_val (je_call (ok_is_key T) rfl (hr.mono (by omega)) T.g_is_key T.F_is_key.kp (Binds.all T.e_is_key) (takes_of rfl rfl rfl rfl) (ja_cons (je_ix ix_seq pure_ix (je_var 0) (je_int)) (ja_nil))))) (jw_or1 (jt_not (jt_chain op_lt op_lt (bool_cmp ltI) (pure_cmp ltI) (je_var 1) (je_ix ix_seq pure_ix (je_var 0) (je_int)) (je_var 2)))))) (js_one (js_ret (je_non))) (js_nil))
    (js_cons (js_set (i := 4) sc_is_part.nd (je_call G rfl hr T.g_is_part T.F_is_part.kp (Binds.all T.e_is_part) (takes_of rfl rfl rfl rfl) (ja_cons (je_ix ix_seq pure_ix (je_var 0) (je_int)) (ja_cons (je_var 1) (ja_cons (je_ix ix_seq pure_ix (je_var 0) (je_int)) (ja_cons (je_op2 op_sub pure_sub (je_var 3) (je_int)) (ja_nil)))))))
    (js_cons (js_if (jt_cmp op_isN pure_isN (je_var 4) (je_non)) (js_one (js_ret (je_non))) (js_nil))
    (js_cons (js_set (i := 5) sc_is_part.nd (je_call G rfl hr T.g_is_part T.F_is_part.kp (Binds.all T.e_is_part) (takes_of rfl rfl rfl rfl) (ja_cons (je_ix ix_seq pure_ix (je_var 0) (je_int)) (ja_cons (je_ix ix_seq pure_ix (je_var 0) (je_int)) (ja_cons (je_var 2) (ja_cons (je_op2 op_sub pure_sub (je_op2 op_sub pure_sub (je_var 3) (je_int)) (je_var 4)) (ja_nil)))))))
    (js_one (js_ret (je_ifExp (jt_cmp op_isN pure_isN (je_var 5) (je_non)) (je_non) (je_op2 op_addA pure_add (je_op2 op_addA pure_add (je_var 4) (je_int)) (je_var 5)))))))))) : FnOk P w K mg base (L2.CX P w) (n + 2 + 1) T.a_is_part T.d_is_part ["value", "low", "high", "room"] (spF T.cls 4 (runF 6 (m_is_part (f_is_part n))))).mono (by omega)
theorem ok_is_part (T : Txt K mg) : FnOk P w K mg base (L2.CX P w) 17 T.a_is_part T.d_is_part ["value", "low", "high", "room"] (spF T.cls 4 F_is_part) := okn_is_part T 15
theorem sc_is_tree : FnScope ["value"] ["value"] (defScope s_is_tree) := ⟨rfl, rfl, rfl, by decide +kernel, rfl, by decide +kernel, by decide +kernel⟩
def m_is_tree : M Flw :=
    mRet (mOp2 notND (mFn 4 F_is_part (mCons (mVar 0) (mCons (mOp1 negD (mC (.int 1))) (mCons (mC (.int 100)) (mCons (mC (.int 9)) (mNil)))))) (mC .none))
def F_is_tree : FS := runF 1 m_is_tree
theorem ok_is_tree (T : Txt K mg) : FnOk P w K mg base (L2.CX P w) 18 T.a_is_tree T.d_is_tree ["value"] (spF T.cls 1 F_is_tree) :=
  fn_ok (Nn := ["value"]) (k := 17) T.cls T.F_is_tree sc_is_tree fun cdv A outer s H E hr as0 L0 =>
    js_one (js_ret (je_cmp op_notN pure_notN (je_call (ok_is_part T) rfl (hr.mono (by decide)) T.g_is_part T.F_is_part.kp (Binds.all T.e_is_part) (takes_of rfl rfl rfl rfl) (ja_cons (je_var 0) (ja_cons (je_un un_neg pure_neg (je_int)) (ja_cons (je_int) (ja_cons (je_globC T.c_MOST_KEYS) (ja_nil)))))) (je_non)))
theorem sc_check_tree : FnScope ["tree"] ["tree"] (defScope s_check_tree) := ⟨rfl, rfl, rfl, by decide +kernel, rfl, by decide +kernel, by decide +kernel⟩
def m_check_tree : M Flw :=
    mIf (mNot (mTest (mFn 1 F_is_tree (mCons (mVar 0) (mNil))))) (mRaise 1) (mNx)
def F_check_tree : FS := runF 1 m_check_tree
theorem ok_check_tree (T : Txt K mg) : FnOk P w K mg base (L2.CX P w) 19 T.a_check_tree T.d_check_tree ["tree"] (spF T.cls 1 F_check_tree) :=
  fn_ok (Nn := ["tree"]) (k := 18) T.cls T.F_check_tree sc_check_tree fun cdv A outer s H E hr as0 L0 =>
    js_one (js_if (jt_not (jt_val (je_call (ok_is_tree T) rfl (hr.mono (by decide)) T.g_is_tree T.F_is_tree.kp (Binds.all T.e_is_tree) (takes_of rfl rfl rfl rfl) (ja_cons (je_var 0) (ja_nil))))) (js_one (js_raiseE T.er rfl 1 rfl (takes_of rfl rfl rfl rfl))) (js_nil))
theorem sc_written : FnScope ["tree"] ["tree"] (defScope s_written) := ⟨rfl, rfl, rfl, by decide +kernel, rfl, by decide +kernel, by decide +kernel⟩
def m_written (self : FS) : M Flw :=
    mRet (mIf (mTest (mOp2 isND (mVar 0) (mC .none))) (mC (.str ".")) (mFStr [mC (.str "("), mFmt (mOp2 ixD (mVar 0) (mC (.int 0))), mC (.str " "), mFmt (mFn 1 self (mCons (mOp2 ixD (mVar 0) (mC (.int 1))) (mNil))), mC (.str " "), mFmt (mFn 1 self (mCons (mOp2 ixD (mVar 0) (mC (.int 2))) (mNil))), mC (.str ")")]))
def f_written : Nat → FS
  | 0 => fun _ _ => .stuck
  | n + 1 => runF 1 (m_written (f_written n))
def F_written : FS := f_written 15
theorem okn_written (T : Txt K mg) : ∀ n : Nat, FnOk P w K mg base (L2.CX P w) (n + 0) T.a_written T.d_written ["tree"] (spF T.cls 1 (f_written n))
  | 0 => fn_stuck
  | n + 1 => by
    have G := okn_written T n
    exact (fn_ok (Nn := ["tree"]) (k := n + 0) T.cls T.F_written sc_written fun cdv A outer s H E hr as0 L0 =>
    js_one (js_ret (je_ifExp (jt_cmp op_isN pure_isN (je_var 0) (je_non)) (je_str) (je_fstr (.cons (je_str) (.cons (je_fmt (je_ix ix_seq pure_ix (je_var 0) (je_int))) (.cons (je_str) (.cons (je_fmt (je_call G rfl hr T.g_written T.F_written.kp (Binds.all T.e_written) (takes_of rfl rfl rfl rfl) (ja_cons (je_ix ix_seq pure_ix (je_var 0) (je_int)) (ja_nil)))) (.cons (je_str) (.cons (je_fmt (je_call G rfl hr T.g_written T.F_written.kp (Binds.all T.e_written) (takes_of rfl rfl rfl rfl) (ja_cons (je_ix ix_seq pure_ix (je_var 0) (je_int)) (ja_nil)))) (.cons (je_str) (.nil))))))))))) : FnOk P w K mg base (L2.CX P w) (n + 0 + 1) T.a_written T.d_written ["tree"] (spF T.cls 1 (runF 1 (m_written (f_written n))))).mono (by omega)
theorem ok_written (T : Txt K mg) : FnOk P w K mg base (L2.CX P w) 15 T.a_written T.d_written ["tree"] (spF T.cls 1 F_written) := okn_written T 15
theorem sc_format_tree : FnScope ["tree"] ["tree"] (defScope s_format_tree) := ⟨rfl, rfl, rfl, by decide +kernel, rfl, by decide +kernel, by decide +kernel⟩
def m_format_tree : M Flw :=
    mThen (mExpr (mFn 1 F_check_tree (mCons (mVar 0) (mNil))))
    (mRet (mFn 1 F_written (mCons (mVar 0) (mNil))))
def F_format_tree : FS := runF 1 m_format_tree
theorem ok_format_tree (T : Txt K mg) : FnOk P w K mg base (L2.CX P w) 20 T.a_format_tree T.d_format_tree ["tree"] (spF T.cls 1 F_format_tree) :=
  fn_ok (Nn := ["tree"]) (k := 19) T.cls T.F_format_tree sc_format_tree fun cdv A outer s H E hr as0 L0 =>
    js_cons (js_expr (je_call (ok_check_tree T) rfl (hr.mono (by decide)) T.g_check_tree T.F_check_tree.kp (Binds.all T.e_check_tree) (takes_of rfl rfl rfl rfl) (ja_cons (je_var 0) (ja_nil))))
    (js_one (js_ret (je_call (ok_written T) rfl (hr.mono (by decide)) T.g_written T.F_written.kp (Binds.all T.e_written) (takes_of rfl rfl rfl rfl) (ja_cons (je_var 0) (ja_nil)))))
theorem sc_read_number : FnScope ["text", "at", "end"] ["text", "at"] (defScope s_read_number) := ⟨rfl, rfl, rfl, by decide +kernel, rfl, by decide +kernel, by decide +kernel⟩
abbrev t_read_number_0 : M Bool :=
    mAnd (mTest (mOp2 (cmpD ltI) (mVar 2) (mCall lenD (mCons (mVar 0) (mNil))))) (mAnd (mTest (mOp2 inSD (mOp2 ixSD (mVar 0) (mVar 2)) (mC (.str "0123456789")))) (mTest (mOp2 (cmpD ltI) (mVar 2) (mOp2 addD (mVar 1) (mC (.int 3))))))
abbrev b_read_number_1 : M Flw :=
    mAug addI 2 (mC (.int 1))
def m_read_number : M Flw :=
    mThen (mSet 2 (mVar 1))
    (mThen (mWhile (t_read_number_0) (b_read_number_1) 1000)
    (mThen (mIf (mOr (mTest (mOp2 eqD (mVar 2) (mVar 1))) (mOr (mTest (mOp2 neD (mCall strD (mCons (mCall intD (mCons (mSlice (mVar 0) (mPart (mVar 1)) (mPart (mVar 2))) (mNil))) (mNil))) (mSlice (mVar 0) (mPart (mVar 1)) (mPart (mVar 2))))) (mTest (mOp2 (cmpD gtI) (mCall intD (mCons (mSlice (mVar 0) (mPart (mVar 1)) (mPart (mVar 2))) (mNil))) (mC (.int 99)))))) (mRaise 6) (mNx))
    (mRet (mSeq .tuple (mCons (mCall intD (mCons (mSlice (mVar 0) (mPart (mVar 1)) (mPart (mVar 2))) (mNil))) (mCons (mVar 2) (mNil)))))))
def F_read_number : FS := runF 3 m_read_number
theorem ok_read_number (T : Txt K mg) : FnOk P w K mg base (L2.CX P w) 1 T.a_read_number T.d_read_number ["text", "at"] (spF T.cls 2 F_read_number) :=
  fn_ok (Nn := ["text", "at", "end"]) (k := 0) T.cls T.F_read_number sc_read_number fun cdv A outer s H E hr as0 L0 =>
    js_cons (js_set (i := 2) sc_read_number.nd (je_var 1))
    (js_cons (js_while (passes_of rfl) (JW.jt (jw_and (jt_cmp op_lt (pure_cmp ltI) (je_var 2) (je_callB call_lenA pure_len T.z_len PySem.boot_len (ja_cons (je_var 0) (ja_nil)))) (jw_and (jt_cmp op_in_sign pure_inS (je_ix ix_str pure_ixS (je_var 0) (je_var 2)) (je_globT T.c_DIGITS)) (jw_and1 (jt_cmp op_lt (pure_cmp ltI) (je_var 2) (je_op2 op_addA pure_add (je_var 1) (je_int))))))) (js_one (js_aug (i := 2) iop_add pure_iadd sc_read_number.nd (je_int))))
    (js_cons (js_if (JW.jt (jw_or (jt_cmp (op_eqD hr.units) pure_eq (je_var 2) (je_var 1)) (jw_or (jt_cmp (op_neD hr.units) pure_ne (je_callTy call_str_int pure_str T.z_str (by decide +kernel) (ja_cons (je_callTy call_int_str pure_int T.z_int (by decide +kernel) (ja_cons (je_slice (je_var 0) (jo_some (je_var 1)) (jo_some (je_var 2))) (ja_nil))) (ja_nil))) (je_slice (je_var 0) (jo_some (je_var 1)) (jo_some (je_var 2)))) (jw_or1 (jt_cmp op_gt (pure_cmp gtI) (je_callTy call_int_str pure_int T.z_int (by decide +kernel) (ja_cons (je_slice (je_var 0) (jo_some (je_var 1)) (jo_some (je_var 2))) (ja_nil))) (je_globC T.c_MOST_KEY)))))) (js_one (js_raiseE T.er rfl 6 rfl (takes_of rfl rfl rfl rfl))) (js_nil))
    (js_one (js_ret (je_tup (ja_cons (je_callTy call_int_str pure_int T.z_int (by decide +kernel) (ja_cons (je_slice (je_var 0) (jo_some (je_var 1)) (jo_some (je_var 2))) (ja_nil))) (ja_cons (je_var 2) (ja_nil))))))))
theorem sc_expect : FnScope ["text", "at", "sign"] ["text", "at", "sign"] (defScope s_expect) := ⟨rfl, rfl, rfl, by decide +kernel, rfl, by decide +kernel, by decide +kernel⟩
def m_expect : M Flw :=
    mThen (mIf (mTest (mOp2 neD (mSlice (mVar 0) (mPart (mVar 1)) (mPart (mOp2 addD (mVar 1) (mC (.int 1))))) (mVar 2))) (mRaise 6) (mNx))
    (mRet (mOp2 addD (mVar 1) (mC (.int 1))))
def F_expect : FS := runF 3 m_expect
theorem ok_expect (T : Txt K mg) : FnOk P w K mg base (L2.CX P w) 1 T.a_expect T.d_expect ["text", "at", "sign"] (spF T.cls 3 F_expect) :=
  fn_ok (Nn := ["text", "at", "sign"]) (k := 0) T.cls T.F_expect sc_expect fun cdv A outer s H E hr as0 L0 =>
    js_cons (js_if (jt_cmp (op_neD hr.units) pure_ne (je_slice (je_var 0) (jo_some (je_var 1)) (jo_some (je_op2 op_addA pure_add (je_var 1) (je_int)))) (je_var 2)) (js_one (js_raiseE T.er rfl 6 rfl (takes_of rfl rfl rfl rfl))) (js_nil))
    (js_one (js_ret (je_op2 op_addA pure_add (je_var 1) (je_int))))
theorem sc_read_tree : FnScope ["text", "at", "depth", "key", "left", "right"] ["text", "at", "depth"] (defScope s_read_tree) := ⟨rfl, rfl, rfl, by decide +kernel, rfl, by decide +kernel, by decide +kernel⟩
def m_read_tree (self : FS) : M Flw :=
    mThen (mIf (mTest (mOp2 eqD (mSlice (mVar 0) (mPart (mVar 1)) (mPart (mOp2 addD (mVar 1) (mC (.int 1))))) (mC (.str ".")))) (mRet (mSeq .tuple (mCons (mC .none) (mCons (mOp2 addD (mVar 1) (mC (.int 1))) (mNil))))) (mNx))
    (mThen (mIf (mTest (mOp2 (cmpD gtI) (mVar 2) (mC (.int 9)))) (mRaise 6) (mNx))
    (mThen (mUnpack [3, 1] 2 (mFn 2 F_read_number (mCons (mVar 0) (mCons (mFn 3 F_expect (mCons (mVar 0) (mCons (mVar 1) (mCons (mC (.str "(")) (mNil))))) (mNil)))))
    (mThen (mUnpack [4, 1] 2 (mFn 3 self (mCons (mVar 0) (mCons (mFn 3 F_expect (mCons (mVar 0) (mCons (mVar 1) (mCons (mC (.str " ")) (mNil))))) (mCons (mOp2 addD (mVar 2) (mC (.int 1))) (mNil))))))
    (mThen (mUnpack [5, 1] 2 (mFn 3 self (mCons (mVar 0) (mCons (mFn 3 F_expect (mCons (mVar 0) (mCons (mVar 1) (mCons (mC (.str " ")) (mNil))))) (mCons (mOp2 addD (mVar 2) (mC (.int 1))) (mNil))))))
    (mRet (mSeq .tuple (mCons (mSeq .tuple (mCons (mVar 3) (mCons (mVar 4) (mCons (mVar 5) (mNil))))) (mCons (mFn 3 F_expect (mCons (mVar 0) (mCons (mVar 1) (mCons (mC (.str ")")) (mNil))))) (mNil)))))))))
def f_read_tree : Nat → FS
  | 0 => fun _ _ => .stuck
  | n + 1 => runF 6 (m_read_tree (f_read_tree n))
def F_read_tree : FS := f_read_tree 15
theorem okn_read_tree (T : Txt K mg) : ∀ n : Nat, FnOk P w K mg base (L2.CX P w) (n + 1) T.a_read_tree T.d_read_tree ["text", "at", "depth"] (spF T.cls 3 (f_read_tree n))
  | 0 => fn_stuck
  | n + 1 => by
    have G := okn_read_tree T n
    exact (fn_ok (Nn := ["text", "at", "depth", "key", "left", "right"]) (k := n + 1) T.cls T.F_read_tree sc_read_tree fun cdv A outer s H E hr as0 L0 =>
    js_cons (js_if (jt_cmp (op_eqD hr.units) pure_eq (je_slice (je_var 0) (jo_some (je_var 1)) (jo_some (je_op2 op_addA pure_add (je_var 1) (je_int)))) (je_str)) (js_one (js_ret (je_tup (ja_cons (je_non) (ja_cons (je_op2 op_addA pure_add (je_var 1) (je_int)) (ja_nil)))))) (js_nil))
    (js_cons (js_if (jt_cmp op_gt (pure_cmp gtI) (je_var 2) (je_int)) (js_one (js_raiseE T.er rfl 6 rfl (takes_of rfl rfl rfl rfl))) (js_nil))
    (js_cons (js_unpack (is := [3, 1]) (n := 2) (pgs_cons' (i := 3) sc_read_tree.nd (pgs_cons' (i := 1) sc_read_tree.nd (pgs_nil))) (je_call (ok_read_number T) rfl (hr.mono (by omega)) T.g_read_number T.F_read_number.kp (Binds.all T.e_read_number) (takes_of rfl rfl rfl rfl) (ja_cons (je_var 0) (ja_cons (je_call (ok_expect T) rfl (hr.mono (by omega)) T.g_expect T.F_expect.kp (Binds.all T.e_expect) (takes_of rfl rfl rfl rfl) (ja_cons (je_var 0) (ja_cons (je_var 1) (ja_cons (je_str) (ja_nil))))) (ja_nil)))))
    (js_cons (js_unpack (is := [4, 1]) (n := 2) (pgs_cons' (i := 4) sc_read_tree.nd (pgs_cons' (i := 1) sc_read_tree.nd (pgs_nil))) (je_call G rfl hr T.g_read_tree T.F_read_tree.kp (Binds.all T.e_read_tree) (takes_of rfl rfl rfl rfl) (ja_cons (je_var 0) (ja_cons (je_call (ok_expect T) rfl (hr.mono (by omega)) T.g_expect T.F_expect.kp (Binds.all T.e_expect) (takes_of rfl rfl rfl rfl) (ja_cons (je_var 0) (ja_cons (je_var 1) (ja_cons (je_str) (ja_nil))))) (ja_cons (je_op2 op_addA pure_add (je_var 2) (je_int)) (ja_nil))))))
    (js_cons (js_unpack (is := [5, 1]) (n := 2) (pgs_cons' (i := 5) sc_read_tree.nd (pgs_cons' (i := 1) sc_read_tree.nd (pgs_nil))) (je_call G rfl hr T.g_read_tree T.F_read_tree.kp (Binds.all T.e_read_tree) (takes_of rfl rfl rfl rfl) (ja_cons (je_var 0) (ja_cons (je_call (ok_expect T) rfl (hr.mono (by omega)) T.g_expect T.F_expect.kp (Binds.all T.e_expect) (takes_of rfl rfl rfl rfl) (ja_cons (je_var 0) (ja_cons (je_var 1) (ja_cons (je_str) (ja_nil))))) (ja_cons (je_op2 op_addA pure_add (je_var 2) (je_int)) (ja_nil))))))
    (js_one (js_ret (je_tup (ja_cons (je_tup (ja_cons (je_var 3) (ja_cons (je_var 4) (ja_cons (je_var 5) (ja_nil))))) (ja_cons (je_call (ok_expect T) rfl (hr.mono (by omega)) T.g_expect T.F_expect.kp (Binds.all T.e_expect) (takes_of rfl rfl rfl rfl) (ja_cons (je_var 0) (ja_cons (je_var 1) (ja_cons (je_str) (ja_nil))))) (ja_nil)))))))))) : FnOk P w K mg base (L2.CX P w) (n + 1 + 1) T.a_read_tree T.d_read_tree ["text", "at", "depth"] (spF T.cls 3 (runF 6 (m_read_tree (f_read_tree n))))).mono (by omega)
theorem ok_read_tree (T : Txt K mg) : FnOk P w K mg base (L2.CX P w) 16 T.a_read_tree T.d_read_tree ["text", "at", "depth"] (spF T.cls 3 F_read_tree) := okn_read_tree T 15
theorem sc_parse_tree : FnScope ["text", "tree", "at"] ["text"] (defScope s_parse_tree) := ⟨rfl, rfl, rfl, by decide +kernel, rfl, by decide +kernel, by decide +kernel⟩
def m_parse_tree : M Flw :=
    mThen (mIf (mNot (mTest (mOp1 (isiD "str") (mVar 0)))) (mRaise 6) (mNx))
    (mThen (mUnpack [1, 2] 2 (mFn 3 F_read_tree (mCons (mVar 0) (mCons (mC (.int 0)) (mCons (mC (.int 0)) (mNil))))))
    (mThen (mIf (mOr (mTest (mOp2 neD (mVar 2) (mCall lenD (mCons (mVar 0) (mNil))))) (mNot (mTest (mFn 1 F_is_tree (mCons (mVar 1) (mNil)))))) (mRaise 6) (mNx))
    (mRet (mVar 1))))
def F_parse_tree : FS := runF 3 m_parse_tree
theorem ok_parse_tree (T : Txt K mg) : FnOk P w K mg base (L2.CX P w) 19 T.a_parse_tree T.d_parse_tree ["text"] (spF T.cls 1 F_parse_tree) :=
  fn_ok (Nn := ["text", "tree", "at"]) (k := 18) T.cls T.F_parse_tree sc_parse_tree fun cdv A outer s H E hr as0 L0 =>
    js_cons (js_if (jt_not (jt_val (je_isi (T := "str") rfl isi_str (.inr (.inr (.inr (.inr rfl)))) (je_var 0) T.z_isinstance T.z_str (by decide +kernel)))) (js_one (js_raiseE T.er rfl 6 rfl (takes_of rfl rfl rfl rfl))) (js_nil))
    (js_cons (js_unpack (is := [1, 2]) (n := 2) (pgs_cons' (i := 1) sc_parse_tree.nd (pgs_cons' (i := 2) sc_parse_tree.nd (pgs_nil))) (je_call (ok_read_tree T) rfl (hr.mono (by decide)) T.g_read_tree T.F_read_tree.kp (Binds.all T.e_read_tree) (takes_of rfl rfl rfl rfl) (ja_cons (je_var 0) (ja_cons (je_int) (ja_cons (je_int) (ja_nil))))))
    (js_cons (js_if (JW.jt (jw_or (jt_cmp (op_neD hr.units) pure_ne (je_var 2) (je_callB call_lenA pure_len T.z_len PySem.boot_len (ja_cons (je_var 0) (ja_nil)))) (jw_or1 (jt_not (jt_val (je_call (ok_is_tree T) rfl (hr.mono (by decide)) T.g_is_tree T.F_is_tree.kp (Binds.all T.e_is_tree) (takes_of rfl rfl rfl rfl) (ja_cons (je_var 1) (ja_nil)))))))) (js_one (js_raiseE T.er rfl 6 rfl (takes_of rfl rfl rfl rfl))) (js_nil))
    (js_one (js_ret (je_var 1)))))
theorem sc_format_order : FnScope ["order", "key"] ["order"] (defScope s_format_order) := ⟨rfl, rfl, rfl, by decide +kernel, rfl, by decide +kernel, by decide +kernel⟩
abbrev e_format_order_0 : M RV :=
    mCall strD (mCons (mVar 1) (mNil))
def m_format_order : M Flw :=
    mThen (mExpr (mFn 1 F_check_order (mCons (mVar 0) (mNil))))
    (mRet (mJoinC " " (mLc [1] 1 (mVar 0) (mYes) (e_format_order_0))))
def F_format_order : FS := runF 2 m_format_order
theorem ok_format_order (T : Txt K mg) : FnOk P w K mg base (L2.CX P w) 5 T.a_format_order T.d_format_order ["order"] (spF T.cls 1 F_format_order) :=
  fn_ok (Nn := ["order", "key"]) (k := 4) T.cls T.F_format_order sc_format_order fun cdv A outer s H E hr as0 L0 =>
    js_cons (js_expr (je_call (ok_check_order T) rfl (hr.mono (by decide)) T.g_check_order T.F_check_order.kp (Binds.all T.e_check_order) (takes_of rfl rfl rfl rfl) (ja_cons (je_var 0) (ja_nil))))
    (js_one (js_ret (je_joinC (je_lc (i := 1) (own := [("key", 1)]) sc_format_order.nd (je_var 0) (blkOk_by (own := [("key", 1)]) (N := ["order", "key"]) (sc := defScope s_format_order) (by decide +kernel)) (fun _ _ _ _ _ => pg_name (i := 1) sc_format_order.nd rfl (by first | exact Or.inl rfl | exact Or.inr rfl)) (fun _ _ _ _ _ => jts_nil) (fun _ _ _ _ _ => je_callTy call_str_int pure_str T.z_str (by decide +kernel) (ja_cons (je_var 1) (ja_nil)))))))
theorem sc_parse_order : FnScope ["text", "found", "word", "key", "at"] ["text"] (defScope s_parse_order) := ⟨rfl, rfl, rfl, by decide +kernel, rfl, by decide +kernel, by decide +kernel⟩
abbrev b_parse_order_0 : M Flw :=
    mThen (mUnpack [3, 4] 2 (mFn 2 F_read_number (mCons (mVar 2) (mCons (mC (.int 0)) (mNil)))))
    (mThen (mIf (mTest (mOp2 neD (mVar 4) (mCall lenD (mCons (mVar 2) (mNil))))) (mRaise 6) (mNx))
    (mExpr (mAppend 1 (mCons (mVar 3) (mNil)))))
def m_parse_order : M Flw :=
    mThen (mIf (mNot (mTest (mOp1 (isiD "str") (mVar 0)))) (mRaise 6) (mNx))
    (mThen (mSetL 1 (mNil))
    (mThen (mFor 2 (mIf (mTest (mOp2 neD (mVar 0) (mC (.str "")))) (mSplitV 0 32) (mSeq .list (mNil))) (b_parse_order_0))
    (mThen (mIf (mNot (mTest (mFn 1 F_is_order (mCons (mVar 1) (mNil))))) (mRaise 6) (mNx))
    (mRet (mVar 1)))))
def F_parse_order : FS := runF 5 m_parse_order
theorem ok_parse_order (T : Txt K mg) : FnOk P w K mg base (L2.CX P w) 4 T.a_parse_order T.d_parse_order ["text"] (spF T.cls 1 F_parse_order) :=
  fn_ok (Nn := ["text", "found", "word", "key", "at"]) (k := 3) T.cls T.F_parse_order sc_parse_order fun cdv A outer s H E hr as0 L0 =>
    js_cons (js_if (jt_not (jt_val (je_isi (T := "str") rfl isi_str (.inr (.inr (.inr (.inr rfl)))) (je_var 0) T.z_isinstance T.z_str (by decide +kernel)))) (js_one (js_raiseE T.er rfl 6 rfl (takes_of rfl rfl rfl rfl))) (js_nil))
    (js_cons (js_setL (i := 1) sc_parse_order.nd (ja_nil))
    (js_cons (js_for (i := 2) sc_parse_order.nd (passes_of rfl) (je_ifExp (jt_cmp (op_neD hr.units) pure_ne (je_var 0) (je_str)) (je_splitV (i := 0)) (je_lst (ja_nil))) (js_cons (js_unpack (is := [3, 4]) (n := 2) (pgs_cons' (i := 3) sc_parse_order.nd (pgs_cons' (i := 4) sc_parse_order.nd (pgs_nil))) (je_call (ok_read_number T) rfl (hr.mono (by decide)) T.g_read_number T.F_read_number.kp (Binds.all T.e_read_number) (takes_of rfl rfl rfl rfl) (ja_cons (je_var 2) (ja_cons (je_int) (ja_nil)))))
    (js_cons (js_if (jt_cmp (op_neD hr.units) pure_ne (je_var 4) (je_callB call_lenA pure_len T.z_len PySem.boot_len (ja_cons (je_var 2) (ja_nil)))) (js_one (js_raiseE T.er rfl 6 rfl (takes_of rfl rfl rfl rfl))) (js_nil))
    (js_one (js_expr (je_append (i := 1) (ja_cons (je_var 3) (ja_nil))))))))
    (js_cons (js_if (jt_not (jt_val (je_call (ok_is_order T) rfl (hr.mono (by decide)) T.g_is_order T.F_is_order.kp (Binds.all T.e_is_order) (takes_of rfl rfl rfl rfl) (ja_cons (je_var 1) (ja_nil))))) (js_one (js_raiseE T.er rfl 6 rfl (takes_of rfl rfl rfl rfl))) (js_nil))
    (js_one (js_ret (je_var 1))))))
theorem sc_law_start : FnScope ["script"] ["script"] (defScope s_law_start) := ⟨rfl, rfl, rfl, by decide +kernel, rfl, by decide +kernel, by decide +kernel⟩
theorem ok_law_start (T : Txt K mg) : FnOk P w K mg base (L2.CX P w) 1 T.a__law_start T.d__law_start ["script"] (spStart K) := by
  refine T.F__law_start.okX sc_law_start (fun vs H Q E h => ?_) (fun cdv A outer s H vs Q E hr h => ?_)
  · obtain ⟨a, ns, rfl, _⟩ := h
    rfl
  · obtain ⟨a, ns, rfl, hS, hl, q⟩ := h
    refine ⟨_, pss_one (ps_ret (pe_lst (pa_cons (pe_ifExp (pt_cmpR (op_neD hr.units) (pv 0) (pe_lst pa_nil) (nomark _)) (pe_callTy call_list_of rfl T.z_list (by decide +kernel) (pa_cons (pv 0) pa_nil)) (pe_lst (pa_cons pe_int pa_nil))) (pa_cons pe_int pa_nil)))), ?_⟩
    refine ⟨.ref a, rfl, Nat.zero_le _, fun z nz => ?_⟩
    have s1 : Same H (upd H z (.lst [])) := same_new nz
    have hS1 := s1.seq hS
    refine ⟨.list (ns.map .int), .list [], .lst hS1 (dps_ints ns), .lst (.inl (.inl upd_same)) .nil, shaped_ints ns, by decide +kernel, _, rfl, ?_⟩
    cases ns with
    | nil =>
      refine ite2 (fun c => absurd c (by decide)) fun _ => ?_
      refine ⟨by show 1 ≤ sizeLine; decide, fun q' nq => ⟨by show 2 ≤ sizeLine; decide, fun p np => ?_⟩⟩
      have npq : p ≠ q' := fun z => by
        rw [z, upd_same] at np
        cases np
      exact q q' p _ (s1.trans ((same_new nq).trans (same_new np))) (s1.free nq) (s1.free ((same_new nq).free np)) npq (by rw [upd_ne (Ne.symm npq), upd_same]; rfl) upd_same
    | cons n r =>
      refine ite2 (fun _ => ?_) fun c => absurd rfl c
      refine ⟨.ref a, rfl, a, (n :: r).map V.int, rfl, .inl hS1, fun q' nq => ⟨by show 2 ≤ sizeLine; decide, fun p np => ?_⟩⟩
      have npq : p ≠ q' := fun z => by
        rw [z, upd_same] at np
        cases np
      exact q q' p _ (s1.trans ((same_new nq).trans (same_new np))) (s1.free nq) (s1.free ((same_new nq).free np)) npq (by rw [upd_ne (Ne.symm npq), upd_same]; rfl) upd_same
def F_law_draw : FS := fsDraw
theorem sc_law_draw : FnScope ["draws", "limit", "numbers", "at", "cell", "mixed"] ["draws", "limit"] (defScope s_law_draw) := ⟨rfl, rfl, rfl, by decide +kernel, rfl, by decide +kernel, by decide +kernel⟩
theorem ok_law_draw (T : Txt K mg) : FnOk P w K mg base (L2.CX P w) 1 T.a__law_draw T.d__law_draw ["draws", "limit"] (spF T.cls 2 F_law_draw) := by
  refine T.F__law_draw.okX sc_law_draw (fun vs H Q E h => h.1) (fun cdv A outer s H vs Q E hr h => ?_)
  obtain ⟨hl, as0, L0, args, gs, live, hv, g, h⟩ := h
  unfold F_law_draw at h
  rcases fsDraw_inv args gs with e | ⟨j, lim, ns, c, ea, ej, ⟨n0, n1, l0, l1⟩, e⟩
  · rw [e] at h
    exact h.elim
  · rw [e] at h
    subst ea
    cases hv with
    | cons h1 t1 => cases t1 with
      | cons h2 t2 =>
        cases t2
        obtain ⟨a, fp, fj, rfl⟩ := h1
        have h2' : At (mask H L0) _ (.int lim) := h2
        cases h2'
        obtain ⟨a', b, ef, ha, hb⟩ := g.gok j _ _ ej fj
        cases ef
        have nab : a ≠ b := drw_ne g fj
        refine ⟨_, pss_cons (ps_set (i := 2) sc_law_draw.nd rfl (.inl rfl) (pe_ix ix_list (pv 0) pe_int (fun _ _ => rfl)))
          (pss_cons (ps_asg (pe_op op_add (pe_ix ix_list (pv 0) pe_int (fun _ _ => rfl)) pe_int) (pg_sub (pv 0) pe_int set_list))
          (pss_cons (ps_set (i := 3) sc_law_draw.nd rfl (.inl rfl) (pe_op op_mod (pe_ix ix_list (pv 0) pe_int (fun _ _ => rfl)) (pe_callB call_len_seq rfl T.z_len PySem.boot_len (pa_cons (pv 2) pa_nil))))
          (pss_cons (ps_set (i := 4) sc_law_draw.nd rfl (.inl rfl) (pe_ix ix_list (pv 2) (pv 3) (fun _ _ => rfl)))
          (pss_cons (ps_if (pt_cmpR op_ge (pv 4) pe_int (nomark _)) (pss_cons (ps_asg (pe_op op_fdiv (pv 4) (pv 1)) (pg_sub (pv 2) (pv 3) set_list)) (pss_one (ps_ret (pe_op op_mod (pv 4) (pv 1))))) pss_nil)
          (pss_cons (ps_set (i := 5) sc_law_draw.nd rfl (.inl rfl) (pe_op op_mod (pe_op op_add (pv 4) (pe_op op_mul pe_int (pe_ix ix_list (pv 0) pe_int (fun _ _ => rfl)))) pe_int))
          (pss_cons (ps_set (i := 5) sc_law_draw.nd rfl (.inl rfl) (pe_op op_mod (pe_op op_pow (pv 5) pe_int) pe_int))
          (pss_one (ps_ret (pe_op op_mod (pe_op op_fdiv (pe_op op_mod (pe_op op_add (pe_op op_mul (pe_op op_fdiv (pv 5) pe_int) pe_int) (pv 5)) pe_int) pe_int) (pv 1)))))))))), ?_⟩
        -- numbers = draws[0]
        refine ⟨_, rfl, a, _, 0, _, rfl, rfl, SqL.of ha, rfl, ?_⟩
        -- draws[1] = draws[1] + 1
        refine ⟨_, rfl, a, _, 1, _, rfl, rfl, SqL.of ha, rfl, c, 1, rfl, rfl, ?_⟩
        refine ⟨_, rfl, a, _, 1, 1, rfl, rfl, ha, rfl, ?_⟩
        have ha1 : (upd H a (.lst (([V.ref b, V.int c] : List V).set 1 (V.int (c + 1))))) a = some (.lst [.ref b, .int (c + 1)]) := upd_same
        have hb1 : (upd H a (.lst (([V.ref b, V.int c] : List V).set 1 (V.int (c + 1))))) b = some (.lst (ns.map V.int)) := by
          rw [upd_ne (Ne.symm nab)]
          exact hb
        -- at
        refine ⟨_, rfl, a, _, 1, _, rfl, rfl, SqL.of ha1, rfl, ?_⟩
        refine ⟨.ref b, rfl, b, ns.map V.int, rfl, .inl (SqL.of hb1), c + 1, _, rfl, rfl, ?_, ?_⟩
        · show (0 : Int) < ((ns.map V.int).length : Int)
          rw [List.length_map]
          omega
        have hlen : ((ns.map V.int).length : Int) = (ns.length : Int) := by rw [List.length_map]
        have hat0 : 0 ≤ (c + 1) % (ns.length : Int) := Int.emod_nonneg _ (by omega)
        have hat1 : (c + 1) % (ns.length : Int) < (ns.length : Int) := Int.emod_lt_of_pos _ (by omega)
        have hat : drawAt ns c < ns.length := by
          unfold drawAt
          omega
        have eat : (c + 1) % (ns.length : Int) = ((drawAt ns c : Nat) : Int) := by
          unfold drawAt
          omega
        have hget : ns[drawAt ns c]? = some (ns.getD (drawAt ns c) 0) := by
          rw [List.getD_eq_getElem?_getD, List.getElem?_eq_getElem hat]
          rfl
        have hix0 : atI (ns.map V.int) ((drawAt ns c : Nat) : Int) = some (.int (ns.getD (drawAt ns c) 0)) := atI_nat (by rw [List.getElem?_map, hget]; rfl)
        have ek : (c + 1) % (((ns.map V.int).length : Nat) : Int) = ((drawAt ns c : Nat) : Int) := by rw [hlen]; exact eat
        have hix : atI (ns.map V.int) ((c + 1) % (((ns.map V.int).length : Nat) : Int)) = some (.int (ns.getD (drawAt ns c) 0)) := by rw [ek]; exact hix0
        -- cell
        refine ⟨.ref b, rfl, _, rfl, b, _, _, _, rfl, rfl, SqL.of hb1, hix, ?_⟩
        -- if
        refine ⟨_, rfl, _, _, rfl, rfl, _, rfl, ite2 (fun e1 => ?_) (fun e1 => ?_)⟩
        · have hge : 1000000000000000000 ≤ ns.getD (drawAt ns c) 0 := of_decide_eq_true e1
          have ev : drawVal ns c lim = ns.getD (drawAt ns c) 0 % lim := by
            unfold drawVal
            exact if_pos hge
          have er : drawRow ns c lim = ns.set (drawAt ns c) (ns.getD (drawAt ns c) 0 / lim) := by
            unfold drawRow
            exact if_pos hge
          refine ⟨_, rfl, _, rfl, _, _, rfl, rfl, ⟨l0, l1⟩, ?_⟩
          refine ⟨_, rfl, _, rfl, b, _, _, drawAt ns c, rfl, rfl, hb1, ?_, ?_⟩
          · show ixN (ns.map V.int).length ((c + 1) % (((ns.map V.int).length : Nat) : Int)) = some (drawAt ns c)
            rw [ek]
            unfold ixN
            rw [if_pos (by omega), if_pos (by rw [List.length_map]; omega)]
            rfl
          refine ⟨_, rfl, _, rfl, _, _, rfl, rfl, l0, ?_⟩
          obtain ⟨st, gr⟩ := draw_end (ns' := drawRow ns c lim) (c' := c + 1) (ns := ns) (c := c) live g fj
          rw [ev] at h
          have em : (ns.map V.int).set (drawAt ns c) (V.int (ns.getD (drawAt ns c) 0 / lim)) = (drawRow ns c lim).map V.int := by
            rw [er, List.map_set]
          show Q _ (upd (upd H a _) b (.lst ((ns.map V.int).set (drawAt ns c) (V.int (ns.getD (drawAt ns c) 0 / lim)))))
          rw [em]
          exact h _ _ L0 as0 st (gr nab) (.int _)
        · have hlt : ¬ 1000000000000000000 ≤ ns.getD (drawAt ns c) 0 := fun z => e1 (decide_eq_true z)
          have er : drawRow ns c lim = ns := by
            unfold drawRow
            exact if_neg hlt
          have ev : drawVal ns c lim = ((((ns.getD (drawAt ns c) 0 + 104729 * (c + 1)) % 4294967291) ^ 5 % 4294967279) / 64 * 69621 + (((ns.getD (drawAt ns c) 0 + 104729 * (c + 1)) % 4294967291) ^ 5 % 4294967279)) % 4294967231 / 8 % lim := by
            unfold drawVal
            exact if_neg hlt
          -- mixed
          refine ⟨_, rfl, _, rfl, a, _, 1, _, rfl, rfl, SqL.of ha1, rfl, 104729, c + 1, rfl, rfl, .inl ⟨by decide, by decide⟩, _, _, rfl, rfl, _, _, rfl, rfl, (by show (0 : Int) < 4294967291; decide), ?_⟩
          have m0 : 0 ≤ (ns.getD (drawAt ns c) 0 + 104729 * (c + 1)) % 4294967291 := Int.emod_nonneg _ (by decide)
          have m1 : (ns.getD (drawAt ns c) 0 + 104729 * (c + 1)) % 4294967291 < 4294967291 := Int.emod_lt_of_pos _ (by decide)
          refine ⟨_, rfl, _, 5, rfl, rfl, ⟨by decide, by decide, ?_⟩, _, _, rfl, rfl, (by show (0 : Int) < 4294967279; decide), ?_⟩
          · have : (2 : Nat) ^ 64 = 18446744073709551616 := by decide
            omega
          have q0 : 0 ≤ ((ns.getD (drawAt ns c) 0 + 104729 * (c + 1)) % 4294967291) ^ 5 % 4294967279 := Int.emod_nonneg _ (by decide)
          have q1 : ((ns.getD (drawAt ns c) 0 + 104729 * (c + 1)) % 4294967291) ^ 5 % 4294967279 < 4294967279 := Int.emod_lt_of_pos _ (by decide)
          refine ⟨_, rfl, _, _, rfl, rfl, ⟨by decide, by decide⟩, _, _, rfl, rfl, .inr ⟨by decide, by decide⟩, _, rfl, _, _, rfl, rfl, _, _, rfl, rfl, (by show (0 : Int) < 4294967231; decide), _, _, rfl, rfl, ⟨by decide, by decide⟩, _, rfl, _, _, rfl, rfl, l0, ?_⟩
          obtain ⟨st, gr⟩ := draw_end (ns' := drawRow ns c lim) (c' := c + 1) (ns := ns) (c := c) live g fj
          rw [ev] at h
          have eH : upd H a (.lst (([V.ref b, V.int c] : List V).set 1 (V.int (c + 1)))) = upd (upd H a (.lst [.ref b, .int (c + 1)])) b (.lst ((drawRow ns c lim).map V.int)) := by
            rw [er]
            funext z
            by_cases hz : z = b
            · subst hz
              rw [upd_same, hb1]
            · rw [upd_ne hz]
              rfl
          rw [eH]
          exact h _ _ L0 as0 st (gr nab) (.int _)
theorem sc_law_pick : FnScope ["draws", "choices"] ["draws", "choices"] (defScope s_law_pick) := ⟨rfl, rfl, rfl, by decide +kernel, rfl, by decide +kernel, by decide +kernel⟩
def m_law_pick : M Flw :=
    mRet (mOp2 ixD (mVar 1) (mFn 2 F_law_draw (mCons (mVar 0) (mCons (mCall lenD (mCons (mVar 1) (mNil))) (mNil)))))
def F_law_pick : FS := runF 2 m_law_pick
theorem ok_law_pick (T : Txt K mg) : FnOk P w K mg base (L2.CX P w) 2 T.a__law_pick T.d__law_pick ["draws", "choices"] (spF T.cls 2 F_law_pick) :=
  fn_ok (Nn := ["draws", "choices"]) (k := 1) T.cls T.F__law_pick sc_law_pick fun cdv A outer s H E hr as0 L0 =>
    js_one (js_ret (je_ix ix_seq pure_ix (je_var 1) (je_call (ok_law_draw T) rfl (hr.mono (by decide)) T.g__law_draw T.F__law_draw.kp (Binds.all T.e__law_draw) (takes_of rfl rfl rfl rfl) (ja_cons (je_var 0) (ja_cons (je_callB call_lenA pure_len T.z_len PySem.boot_len (ja_cons (je_var 1) (ja_nil))) (ja_nil))))))
theorem sc_law_error : FnScope ["caught", "kinds"] ["caught"] (defScope s_law_error) := ⟨rfl, rfl, rfl, by decide +kernel, rfl, by decide +kernel, by decide +kernel⟩
def m_law_error : M Flw :=
    mThen (mSetL 1 (mCons (mIsE 1 (mVar 0)) (mCons (mIsE 2 (mVar 0)) (mCons (mIsE 3 (mVar 0)) (mNil)))))
    (mThen (mSet 1 (mOp2 addD (mVar 1) (mSeq .list (mCons (mIsE 4 (mVar 0)) (mCons (mIsE 5 (mVar 0)) (mCons (mIsE 6 (mVar 0)) (mNil)))))))
    (mThen (mSet 1 (mOp2 addD (mVar 1) (mSeq .list (mCons (mIsE 7 (mVar 0)) (mNil)))))
    (mThen (mIf (mOr (mTest (mOp2 neD (mCount (mVar 1) (mCons (mC (.bool true)) (mNil))) (mC (.int 1)))) (mOr (mNot (mTest (mIsE 0 (mVar 0)))) (mNot (mTest (mIsE 8 (mVar 0)))))) (mRet (mC (.str "odd"))) (mNx))
    (mRet (mOp2 ixD (mSeq .list (mCons (mC (.str "tree")) (mCons (mC (.str "key")) (mCons (mC (.str "keys")) (mCons (mC (.str "number")) (mCons (mC (.str "values")) (mCons (mC (.str "text")) (mCons (mC (.str "none")) (mNil))))))))) (mIndex (mVar 1) (mCons (mC (.bool true)) (mNil))))))))
def F_law_error : FS := runF 2 m_law_error
theorem ok_law_error (T : Txt K mg) : FnOk P w K mg base (L2.CX P w) 1 T.a__law_error T.d__law_error ["caught"] (spF T.cls 1 F_law_error) :=
  fn_ok (Nn := ["caught", "kinds"]) (k := 0) T.cls T.F__law_error sc_law_error fun cdv A outer s H E hr as0 L0 =>
    js_cons (js_setL (i := 1) sc_law_error.nd (ja_cons (je_isE T.er rfl 1 rfl (je_var 0) T.z_isinstance) (ja_cons (je_isE T.er rfl 2 rfl (je_var 0) T.z_isinstance) (ja_cons (je_isE T.er rfl 3 rfl (je_var 0) T.z_isinstance) (ja_nil)))))
    (js_cons (js_set (i := 1) sc_law_error.nd (je_op2 op_addA pure_add (je_var 1) (je_lst (ja_cons (je_isE T.er rfl 4 rfl (je_var 0) T.z_isinstance) (ja_cons (je_isE T.er rfl 5 rfl (je_var 0) T.z_isinstance) (ja_cons (je_isE T.er rfl 6 rfl (je_var 0) T.z_isinstance) (ja_nil)))))))
    (js_cons (js_set (i := 1) sc_law_error.nd (je_op2 op_addA pure_add (je_var 1) (je_lst (ja_cons (je_isE T.er rfl 7 rfl (je_var 0) T.z_isinstance) (ja_nil)))))
    (js_cons (js_if (JW.jt (jw_or (jt_cmp (op_neD hr.units) pure_ne (je_count (je_var 1) (ja_cons (je_bl) (ja_nil)) (hu65 hr)) (je_int)) (jw_or (jt_not (jt_val (je_isE T.er rfl 0 rfl (je_var 0) T.z_isinstance))) (jw_or1 (jt_not (jt_val (je_isVE T.er rfl (je_var 0) T.z_isinstance T.z_ValueError))))))) (js_one (js_ret (je_str))) (js_nil))
    (js_one (js_ret (je_ix ix_seq pure_ix (je_lst (ja_cons (je_str) (ja_cons (je_str) (ja_cons (je_str) (ja_cons (je_str) (ja_cons (je_str) (ja_cons (je_str) (ja_cons (je_str) (ja_nil))))))))) (je_index (je_var 1) (ja_cons (je_bl) (ja_nil)) (hu65 hr))))))))
theorem sc_law_order : FnScope ["draws", "most", "found", "wide", "k", "key"] ["draws", "most"] (defScope s_law_order) := ⟨rfl, rfl, rfl, by decide +kernel, rfl, by decide +kernel, by decide +kernel⟩
abbrev b_law_order_0 : M Flw :=
    mThen (mSet 5 (mFn 2 F_law_draw (mCons (mVar 0) (mCons (mVar 3) (mNil)))))
    (mIf (mTest (mOp2 notInD (mVar 5) (mVar 2))) (mExpr (mAppend 2 (mCons (mVar 5) (mNil)))) (mNx))
def m_law_order : M Flw :=
    mThen (mSetL 2 (mNil))
    (mThen (mSet 3 (mFn 2 F_law_pick (mCons (mVar 0) (mCons (mSeq .list (mCons (mOp2 addD (mVar 1) (mC (.int 1))) (mCons (mC (.int 30)) (mCons (mC (.int 100)) (mNil))))) (mNil)))))
    (mThen (mForR1 4 (mCons (mFn 2 F_law_draw (mCons (mVar 0) (mCons (mOp2 addD (mVar 1) (mC (.int 1))) (mNil)))) (mNil)) (b_law_order_0))
    (mThen (mIf (mTest (mOp2 eqD (mFn 2 F_law_draw (mCons (mVar 0) (mCons (mC (.int 6)) (mNil)))) (mC (.int 0)))) (mSet 2 (mCall sortD (mCons (mVar 2) (mNil)))) (mNx))
    (mRet (mVar 2)))))
def F_law_order : FS := runF 6 m_law_order
theorem ok_law_order (T : Txt K mg) : FnOk P w K mg base (L2.CX P w) 3 T.a__law_order T.d__law_order ["draws", "most"] (spF T.cls 2 F_law_order) :=
  fn_ok (Nn := ["draws", "most", "found", "wide", "k", "key"]) (k := 2) T.cls T.F__law_order sc_law_order fun cdv A outer s H E hr as0 L0 =>
    js_cons (js_setL (i := 2) sc_law_order.nd (ja_nil))
    (js_cons (js_set (i := 3) sc_law_order.nd (je_call (ok_law_pick T) rfl (hr.mono (by decide)) T.g__law_pick T.F__law_pick.kp (Binds.all T.e__law_pick) (takes_of rfl rfl rfl rfl) (ja_cons (je_var 0) (ja_cons (je_lst (ja_cons (je_op2 op_addA pure_add (je_var 1) (je_int)) (ja_cons (je_int) (ja_cons (je_int) (ja_nil))))) (ja_nil)))))
    (js_cons (js_forR1 (i := 4) sc_law_order.nd (passes_of rfl) T.z_range (ja_cons (je_call (ok_law_draw T) rfl (hr.mono (by decide)) T.g__law_draw T.F__law_draw.kp (Binds.all T.e__law_draw) (takes_of rfl rfl rfl rfl) (ja_cons (je_var 0) (ja_cons (je_op2 op_addA pure_add (je_var 1) (je_int)) (ja_nil)))) (ja_nil)) (js_cons (js_set (i := 5) sc_law_order.nd (je_call (ok_law_draw T) rfl (hr.mono (by decide)) T.g__law_draw T.F__law_draw.kp (Binds.all T.e__law_draw) (takes_of rfl rfl rfl rfl) (ja_cons (je_var 0) (ja_cons (je_var 3) (ja_nil)))))
    (js_one (js_if (jt_cmp (op_notInD (hu65 hr)) pure_notIn (je_var 5) (je_var 2)) (js_one (js_expr (je_append (i := 2) (ja_cons (je_var 5) (ja_nil))))) (js_nil)))))
    (js_cons (js_if (jt_cmp (op_eqD hr.units) pure_eq (je_call (ok_law_draw T) rfl (hr.mono (by decide)) T.g__law_draw T.F__law_draw.kp (Binds.all T.e__law_draw) (takes_of rfl rfl rfl rfl) (ja_cons (je_var 0) (ja_cons (je_int) (ja_nil)))) (je_int)) (js_one (js_set (i := 2) sc_law_order.nd (je_callB cr_sorted pure_sorted T.z_sorted (by decide +kernel) (ja_cons (je_var 2) (ja_nil))))) (js_nil))
    (js_one (js_ret (je_var 2))))))
theorem sc_law_leaf : FnScope ["tree", "key"] ["tree", "key"] (defScope s_law_leaf) := ⟨rfl, rfl, rfl, by decide +kernel, rfl, by decide +kernel, by decide +kernel⟩
def m_law_leaf (self : FS) : M Flw :=
    mThen (mIf (mTest (mOp2 isND (mVar 0) (mC .none))) (mRet (mSeq .tuple (mCons (mVar 1) (mCons (mC .none) (mCons (mC .none) (mNil)))))) (mNx))
    (mThen (mIf (mTest (mOp2 (cmpD ltI) (mVar 1) (mOp2 ixD (mVar 0) (mC (.int 0))))) (mRet (mSeq .tuple (mCons (mOp2 ixD (mVar 0) (mC (.int 0))) (mCons (mFn 2 self (mCons (mOp2 ixD (mVar 0) (mC (.int 1))) (mCons (mVar 1) (mNil)))) (mCons (mOp2 ixD (mVar 0) (mC (.int 2))) (mNil)))))) (mNx))
    (mRet (mSeq .tuple (mCons (mOp2 ixD (mVar 0) (mC (.int 0))) (mCons (mOp2 ixD (mVar 0) (mC (.int 1))) (mCons (mFn 2 self (mCons (mOp2 ixD (mVar 0) (mC (.int 2))) (mCons (mVar 1) (mNil)))) (mNil)))))))
def f_law_leaf : Nat → FS
  | 0 => fun _ _ => .stuck
  | n + 1 => runF 2 (m_law_leaf (f_law_leaf n))
def F_law_leaf : FS := f_law_leaf 15
theorem okn_law_leaf (T : Txt K mg) : ∀ n : Nat, FnOk P w K mg base (L2.CX P w) (n + 0) T.a__law_leaf T.d__law_leaf ["tree", "key"] (spF T.cls 2 (f_law_leaf n))
  | 0 => fn_stuck
  | n + 1 => by
    have G := okn_law_leaf T n
    exact (fn_ok (Nn := ["tree", "key"]) (k := n + 0) T.cls T.F__law_leaf sc_law_leaf fun cdv A outer s H E hr as0 L0 =>
    js_cons (js_if (jt_cmp op_isN pure_isN (je_var 0) (je_non)) (js_one (js_ret (je_tup (ja_cons (je_var 1) (ja_cons (je_non) (ja_cons (je_non) (ja_nil))))))) (js_nil))
    (js_cons (js_if (jt_cmp op_lt (pure_cmp ltI) (je_var 1) (je_ix ix_seq pure_ix (je_var 0) (je_int))) (js_one (js_ret (je_tup (ja_cons (je_ix ix_seq pure_ix (je_var 0) (je_int)) (ja_cons (je_call G rfl hr T.g__law_leaf T.F__law_leaf.kp (Binds.all T.e__law_leaf) (takes_of rfl rfl rfl rfl) (ja_cons (je_ix ix_seq pure_ix (je_var 0) (je_int)) (ja_cons (je_var 1) (ja_nil)))) (ja_cons (je_ix ix_seq pure_ix (je_var 0) (je_int)) (ja_nil))))))) (js_nil))
    (js_one (js_ret (je_tup (ja_cons (je_ix ix_seq pure_ix (je_var 0) (je_int)) (ja_cons (je_ix ix_seq pure_ix (je_var 0) (je_int)) (ja_cons (je_call G rfl hr T.g__law_leaf T.F__law_leaf.kp (Binds.all T.e__law_leaf) (takes_of rfl rfl rfl rfl) (ja_cons (je_ix ix_seq pure_ix (je_var 0) (je_int)) (ja_cons (je_var 1) (ja_nil)))) (ja_nil)))))))) : FnOk P w K mg base (L2.CX P w) (n + 0 + 1) T.a__law_leaf T.d__law_leaf ["tree", "key"] (spF T.cls 2 (runF 2 (m_law_leaf (f_law_leaf n))))).mono (by omega)
theorem ok_law_leaf (T : Txt K mg) : FnOk P w K mg base (L2.CX P w) 15 T.a__law_leaf T.d__law_leaf ["tree", "key"] (spF T.cls 2 F_law_leaf) := okn_law_leaf T 15
theorem sc_law_tree : FnScope ["order", "tree", "key"] ["order"] (defScope s_law_tree) := ⟨rfl, rfl, rfl, by decide +kernel, rfl, by decide +kernel, by decide +kernel⟩
abbrev b_law_tree_0 : M Flw :=
    mSet 1 (mFn 2 F_law_leaf (mCons (mVar 1) (mCons (mVar 2) (mNil))))
def m_law_tree : M Flw :=
    mThen (mSet 1 (mC .none))
    (mThen (mFor 2 (mVar 0) (b_law_tree_0))
    (mRet (mVar 1)))
def F_law_tree : FS := runF 3 m_law_tree
theorem ok_law_tree (T : Txt K mg) : FnOk P w K mg base (L2.CX P w) 16 T.a__law_tree T.d__law_tree ["order"] (spF T.cls 1 F_law_tree) :=
  fn_ok (Nn := ["order", "tree", "key"]) (k := 15) T.cls T.F__law_tree sc_law_tree fun cdv A outer s H E hr as0 L0 =>
    js_cons (js_set (i := 1) sc_law_tree.nd (je_non))
    (js_cons (js_for (i := 2) sc_law_tree.nd (passes_of rfl) (je_var 0) (js_one (js_set (i := 1) sc_law_tree.nd (je_call (ok_law_leaf T) rfl (hr.mono (by decide)) T.g__law_leaf T.F__law_leaf.kp (Binds.all T.e__law_leaf) (takes_of rfl rfl rfl rfl) (ja_cons (je_var 1) (ja_cons (je_var 2) (ja_nil)))))))
    (js_one (js_ret (je_var 1))))
theorem sc_law_written : FnScope ["tree", "parts"] ["tree"] (defScope s_law_written) := ⟨rfl, rfl, rfl, by decide +kernel, rfl, by decide +kernel, by decide +kernel⟩
def m_law_written (self : FS) : M Flw :=
    mThen (mIf (mTest (mOp2 isND (mVar 0) (mC .none))) (mRet (mC (.str "."))) (mNx))
    (mThen (mSetL 1 (mCons (mCall strD (mCons (mOp2 ixD (mVar 0) (mC (.int 0))) (mNil))) (mCons (mFn 1 self (mCons (mOp2 ixD (mVar 0) (mC (.int 1))) (mNil))) (mCons (mFn 1 self (mCons (mOp2 ixD (mVar 0) (mC (.int 2))) (mNil))) (mNil)))))
    (mRet (mOp2 addD (mOp2 addD (mC (.str "(")) (mJoinC " " (mVar 1))) (mC (.str ")")))))
def f_law_written : Nat → FS
  | 0 => fun _ _ => .stuck
  | n + 1 => runF 2 (m_law_written (f_law_written n))
def F_law_written : FS := f_law_written 15
theorem okn_law_written (T : Txt K mg) : ∀ n : Nat, FnOk P w K mg base (L2.CX P w) (n + 0) T.a__law_written T.d__law_written ["tree"] (spF T.cls 1 (f_law_written n))
  | 0 => fn_stuck
  | n + 1 => by
    have G := okn_law_written T n
    exact (fn_ok (Nn := ["tree", "parts"]) (k := n + 0) T.cls T.F__law_written sc_law_written fun cdv A outer s H E hr as0 L0 =>
    js_cons (js_if (jt_cmp op_isN pure_isN (je_var 0) (je_non)) (js_one (js_ret (je_str))) (js_nil))
    (js_cons (js_setL (i := 1) sc_law_written.nd (ja_cons (je_callTy call_str_int pure_str T.z_str (by decide +kernel) (ja_cons (je_ix ix_seq pure_ix (je_var 0) (je_int)) (ja_nil))) (ja_cons (je_call G rfl hr T.g__law_written T.F__law_written.kp (Binds.all T.e__law_written) (takes_of rfl rfl rfl rfl) (ja_cons (je_ix ix_seq pure_ix (je_var 0) (je_int)) (ja_nil))) (ja_cons (je_call G rfl hr T.g__law_written T.F__law_written.kp (Binds.all T.e__law_written) (takes_of rfl rfl rfl rfl) (ja_cons (je_ix ix_seq pure_ix (je_var 0) (je_int)) (ja_nil))) (ja_nil)))))
    (js_one (js_ret (je_op2 op_addA pure_add (je_op2 op_addA pure_add (je_str) (je_joinC (je_var 1))) (je_str))))) : FnOk P w K mg base (L2.CX P w) (n + 0 + 1) T.a__law_written T.d__law_written ["tree"] (spF T.cls 1 (runF 2 (m_law_written (f_law_written n))))).mono (by omega)
theorem ok_law_written (T : Txt K mg) : FnOk P w K mg base (L2.CX P w) 15 T.a__law_written T.d__law_written ["tree"] (spF T.cls 1 F_law_written) := okn_law_written T 15
theorem sc_law_words : FnScope ["order", "key"] ["order"] (defScope s_law_words) := ⟨rfl, rfl, rfl, by decide +kernel, rfl, by decide +kernel, by decide +kernel⟩
abbrev e_law_words_0 : M RV :=
    mCall strD (mCons (mVar 1) (mNil))
def m_law_words : M Flw :=
    mRet (mJoinC " " (mLc [1] 1 (mVar 0) (mYes) (e_law_words_0)))
def F_law_words : FS := runF 2 m_law_words
theorem ok_law_words (T : Txt K mg) : FnOk P w K mg base (L2.CX P w) 1 T.a__law_words T.d__law_words ["order"] (spF T.cls 1 F_law_words) :=
  fn_ok (Nn := ["order", "key"]) (k := 0) T.cls T.F__law_words sc_law_words fun cdv A outer s H E hr as0 L0 =>
    js_one (js_ret (je_joinC (je_lc (i := 1) (own := [("key", 1)]) sc_law_words.nd (je_var 0) (blkOk_by (own := [("key", 1)]) (N := ["order", "key"]) (sc := defScope s_law_words) (by decide +kernel)) (fun _ _ _ _ _ => pg_name (i := 1) sc_law_words.nd rfl (by first | exact Or.inl rfl | exact Or.inr rfl)) (fun _ _ _ _ _ => jts_nil) (fun _ _ _ _ _ => je_callTy call_str_int pure_str T.z_str (by decide +kernel) (ja_cons (je_var 1) (ja_nil))))))
theorem sc_law_parsed : FnScope ["kind", "text", "found", "caught", "e"] ["kind", "text"] (defScope s_law_parsed) := ⟨rfl, rfl, rfl, by decide +kernel, rfl, by decide +kernel, by decide +kernel⟩
def m_law_parsed : M Flw :=
    mThen (mSet 2 (mC .none))
    (mThen (mSet 3 (mC .none))
    (mThen (mTry 4 okE (mSet 2 (mIf (mTest (mOp2 eqD (mVar 0) (mC (.int 0)))) (mFn 1 F_parse_tree (mCons (mVar 1) (mNil))) (mFn 1 F_parse_order (mCons (mVar 1) (mNil))))) (mSet 3 (mVar 4)))
    (mRet (mIf (mTest (mIsNH (mVar 3))) (mSeq .list (mCons (mVar 2) (mNil))) (mFn 1 F_law_error (mCons (mVar 3) (mNil)))))))
def F_law_parsed : FS := runF 5 m_law_parsed
theorem ok_law_parsed (T : Txt K mg) : FnOk P w K mg base (L2.CX P w) 20 T.a__law_parsed T.d__law_parsed ["kind", "text"] (spF T.cls 2 F_law_parsed) :=
  fn_ok (Nn := ["kind", "text", "found", "caught", "e"]) (k := 19) T.cls T.F__law_parsed sc_law_parsed fun cdv A outer s H E hr as0 L0 =>
    js_cons (js_set (i := 2) sc_law_parsed.nd (je_non))
    (js_cons (js_set (i := 3) sc_law_parsed.nd (je_non))
    (js_cons (js_try (i := 4) (okc := okE) rfl rfl sc_law_parsed.nd rfl rfl ⟨rfl, by decide, .inl (T.er.g 0 (by decide))⟩ (takes_of rfl rfl rfl rfl) (exmE T.er) (fun W1 pn xe tk po => js_one (js_set (i := 2) sc_law_parsed.nd (je_ifExp (jt_cmp (op_eqD hr.units) pure_eq (je_var 0) (je_int)) (je_call (ok_parse_tree T) rfl (hr.mono (by decide)) T.g_parse_tree T.F_parse_tree.kp (Binds.all T.e_parse_tree) tk (ja_cons (je_var 1) (ja_nil))) (je_call (ok_parse_order T) rfl (hr.mono (by decide)) T.g_parse_order T.F_parse_order.kp (Binds.all T.e_parse_order) tk (ja_cons (je_var 1) (ja_nil)))))) (fun a pn => js_one (js_set (i := 3) sc_law_parsed.nd (je_var 4))))
    (js_one (js_ret (je_ifExp (jt_isNH (je_var 3)) (je_lst (ja_cons (je_var 2) (ja_nil))) (je_call (ok_law_error T) rfl (hr.mono (by decide)) T.g__law_error T.F__law_error.kp (Binds.all T.e__law_error) (takes_of rfl rfl rfl rfl) (ja_cons (je_var 3) (ja_nil))))))))
theorem sc_law_rejected : FnScope ["odd", "line", "key", "bad"] [] (defScope s_law_rejected) := ⟨rfl, rfl, rfl, by decide +kernel, rfl, by decide +kernel, by decide +kernel⟩
abbrev e_law_rejected_0 : M RV :=
    mFn 2 F_law_parsed (mCons (mC (.int 1)) (mCons (mVar 3) (mNil)))
abbrev b_law_rejected_1 : M Flw :=
    mSet 1 (mOp2 addD (mOp2 addD (mOp2 addD (mOp2 addD (mC (.str "(")) (mCall strD (mCons (mVar 2) (mNil)))) (mC (.str " . "))) (mVar 1)) (mC (.str ")")))
abbrev e_law_rejected_2 : M RV :=
    mFn 2 F_law_parsed (mCons (mC (.int 0)) (mCons (mVar 3) (mNil)))
def m_law_rejected : M Flw :=
    mThen (mSetL 0 (mCons (mC .none) (mCons (mC (.int 5)) (mCons (mC (.str "")) (mCons (mC (.str " ")) (mCons (mC (.str "..")) (mCons (mC (.str "(")) (mCons (mC (.str "(1)")) (mCons (mC (.str "(1 .)")) (mCons (mC (.str "(1 . . .)")) (mCons (mC (.str "(1 . .")) (mCons (mC (.str "(1 . .))")) (mCons (mC (.str "1")) (mCons (mC (.str "(01 . .)")) (mCons (mC (.str "(100 . .)")) (mCons (mC (.str "(1  . .)")) (mCons (mC (.str " (1 . .)")) (mCons (mC (.str "(1 . .) ")) (mCons (mC (.str "(-1 . .)")) (mCons (mC (.str "(a . .)")) (mCons (mC (.str "(1 (1 . .) .)")) (mCons (mC (.str "(1 (2 . .) .)")) (mCons (mC (.str "(1 . (0 . .))")) (mCons (mC (.str "( . .)")) (mCons (mC (.str "[1 . .]")) (mNil))))))))))))))))))))))))))
    (mThen (mIf (mOr (mTest (mOp2 neD (mLc [3] 3 (mVar 0) (mYes) (e_law_rejected_2)) (mOp2 repLD (mSeq .list (mCons (mC (.str "text")) (mNil))) (mC (.int 24))))) (mOr (mTest (mOp2 neD (mFn 2 F_law_parsed (mCons (mC (.int 0)) (mCons (mC (.str ".")) (mNil)))) (mSeq .list (mCons (mC .none) (mNil))))) (mTest (mOp2 neD (mFn 2 F_law_parsed (mCons (mC (.int 0)) (mCons (mC (.str "(99 (0 . .) .)")) (mNil)))) (mSeq .list (mCons (mSeq .tuple (mCons (mC (.int 99)) (mCons (mSeq .tuple (mCons (mC (.int 0)) (mCons (mC .none) (mCons (mC .none) (mNil))))) (mCons (mC .none) (mNil))))) (mNil))))))) (mRet (mC (.bool false))) (mNx))
    (mThen (mSet 1 (mOp2 addD (mC (.str ".")) (mC (.str ""))))
    (mThen (mForD 2 (mCons (mC (.int 9)) (mCons (mOp2 subD (mC (.int 0)) (mC (.int 1))) (mCons (mOp2 subD (mC (.int 0)) (mC (.int 1))) (mNil)))) (b_law_rejected_1))
    (mThen (mIf (mOr (mTest (mOp2 neD (mFn 2 F_law_parsed (mCons (mC (.int 0)) (mCons (mVar 1) (mNil)))) (mC (.str "text")))) (mOr (mTest (mOp2 neD (mFn 2 F_law_parsed (mCons (mC (.int 0)) (mCons (mOp2 mulSD (mC (.str "(")) (mC (.int 60))) (mNil)))) (mC (.str "text")))) (mTest (mOp2 neD (mFn 2 F_law_parsed (mCons (mC (.int 0)) (mCons (mOp2 mulSD (mC (.str "(1 ")) (mC (.int 60))) (mNil)))) (mC (.str "text")))))) (mRet (mC (.bool false))) (mNx))
    (mThen (mSetL 0 (mCons (mC .none) (mCons (mC (.int 5)) (mCons (mC (.str " ")) (mCons (mC (.str "1 ")) (mCons (mC (.str " 1")) (mCons (mC (.str "1  2")) (mCons (mC (.str "01")) (mCons (mC (.str "100")) (mCons (mC (.str "-1")) (mCons (mC (.str "a")) (mCons (mC (.str "1,2")) (mCons (mC (.str "1 1")) (mCons (mC (.str "1 2 1")) (mCons (mC (.str "0 1 2 3 4 5 6 7 8 9")) (mCons (mC (.str "1.")) (mCons (mC (.str "+1")) (mNil))))))))))))))))))
    (mThen (mIf (mOr (mTest (mOp2 neD (mLc [3] 3 (mVar 0) (mYes) (e_law_rejected_0)) (mOp2 repLD (mSeq .list (mCons (mC (.str "text")) (mNil))) (mC (.int 16))))) (mOr (mTest (mOp2 neD (mFn 2 F_law_parsed (mCons (mC (.int 1)) (mCons (mC (.str "")) (mNil)))) (mSeq .list (mCons (mSeq .list (mNil)) (mNil))))) (mTest (mOp2 neD (mFn 1 F_format_order (mCons (mSeq .list (mNil)) (mNil))) (mC (.str "")))))) (mRet (mC (.bool false))) (mNx))
    (mRet (mAndV (mOp2 eqD (mFn 2 F_law_parsed (mCons (mC (.int 1)) (mCons (mC (.str "99 0 5")) (mNil)))) (mSeq .list (mCons (mSeq .list (mCons (mC (.int 99)) (mCons (mC (.int 0)) (mCons (mC (.int 5)) (mNil))))) (mNil)))) (mOp2 eqD (mFn 1 F_format_tree (mCons (mC .none) (mNil))) (mC (.str ".")))))))))))
def F_law_rejected : FS := runF 4 m_law_rejected
theorem ok_law_rejected (T : Txt K mg) : FnOk P w K mg base (L2.CX P w) 21 T.a__law_rejected T.d__law_rejected [] (spF T.cls 0 F_law_rejected) :=
  fn_ok (Nn := ["odd", "line", "key", "bad"]) (k := 20) T.cls T.F__law_rejected sc_law_rejected fun cdv A outer s H E hr as0 L0 =>
    js_cons (js_setL (i := 0) sc_law_rejected.nd (ja_cons (je_non) (ja_cons (je_int) (ja_cons (je_str) (ja_cons (je_str) (ja_cons (je_str) (ja_cons (je_str) (ja_cons (je_str) (ja_cons (je_str) (ja_cons (je_str) (ja_cons (je_str) (ja_cons (je_str) (ja_cons (je_str) (ja_cons (je_str) (ja_cons (je_str) (ja_cons (je_str) (ja_cons (je_str) (ja_cons (je_str) (ja_cons (je_str) (ja_cons (je_str) (ja_cons (je_str) (ja_cons (je_str) (ja_cons (je_str) (ja_cons (je_str) (ja_cons (je_str) (ja_nil))))))))))))))))))))))))))
    (js_cons (js_if (JW.jt (jw_or (jt_cmp (op_neD hr.units) pure_ne (je_lc (i := 3) (own := [("bad", 3)]) sc_law_rejected.nd (je_var 0) (blkOk_by (own := [("bad", 3)]) (N := ["odd", "line", "key", "bad"]) (sc := defScope s_law_rejected) (by decide +kernel)) (fun _ _ _ _ _ => pg_name (i := 3) sc_law_rejected.nd rfl (by first | exact Or.inl rfl | exact Or.inr rfl)) (fun _ _ _ _ _ => jts_nil) (fun _ _ _ _ _ => je_call (ok_law_parsed T) rfl (hr.mono (by decide)) T.g__law_parsed T.F__law_parsed.kp (Binds.all T.e__law_parsed) takes0 (ja_cons (je_int) (ja_cons (je_var 3) (ja_nil))))) (je_op2 op_rep pure_repL (je_lst (ja_cons (je_str) (ja_nil))) (je_int))) (jw_or (jt_cmp (op_neD hr.units) pure_ne (je_call (ok_law_parsed T) rfl (hr.mono (by decide)) T.g__law_parsed T.F__law_parsed.kp (Binds.all T.e__law_parsed) (takes_of rfl rfl rfl rfl) (ja_cons (je_int) (ja_cons (je_str) (ja_nil)))) (je_lst (ja_cons (je_non) (ja_nil)))) (jw_or1 (jt_cmp (op_neD hr.units) pure_ne (je_call (ok_law_parsed T) rfl (hr.mono (by decide)) T.g__law_parsed T.F__law_parsed.kp (Binds.all T.e__law_parsed) (takes_of rfl rfl rfl rfl) (ja_cons (je_int) (ja_cons (je_str) (ja_nil)))) (je_lst (ja_cons (je_tup (ja_cons (je_int) (ja_cons (je_tup (ja_cons (je_int) (ja_cons (je_non) (ja_cons (je_non) (ja_nil))))) (ja_cons (je_non) (ja_nil))))) (ja_nil)))))))) (js_one (js_ret (je_bl))) (js_nil))
    (js_cons (js_set (i := 1) sc_law_rejected.nd (je_op2 op_addA pure_add (je_str) (je_str)))
    (js_cons (js_forD (i := 2) sc_law_rejected.nd (passes_of rfl) T.z_range (ja_cons (je_int) (ja_cons (je_op2 op_sub pure_sub (je_int) (je_int)) (ja_cons (je_op2 op_sub pure_sub (je_int) (je_int)) (ja_nil)))) (js_one (js_set (i := 1) sc_law_rejected.nd (je_op2 op_addA pure_add (je_op2 op_addA pure_add (je_op2 op_addA pure_add (je_op2 op_addA pure_add (je_str) (je_callTy call_str_int pure_str T.z_str (by decide +kernel) (ja_cons (je_var 2) (ja_nil)))) (je_str)) (je_var 1)) (je_str)))))
    (js_cons (js_if (JW.jt (jw_or (jt_cmp (op_neD hr.units) pure_ne (je_call (ok_law_parsed T) rfl (hr.mono (by decide)) T.g__law_parsed T.F__law_parsed.kp (Binds.all T.e__law_parsed) (takes_of rfl rfl rfl rfl) (ja_cons (je_int) (ja_cons (je_var 1) (ja_nil)))) (je_str)) (jw_or (jt_cmp (op_neD hr.units) pure_ne (je_call (ok_law_parsed T) rfl (hr.mono (by decide)) T.g__law_parsed T.F__law_parsed.kp (Binds.all T.e__law_parsed) (takes_of rfl rfl rfl rfl) (ja_cons (je_int) (ja_cons (je_op2 op_mulS pure_mulS (je_str) (je_int)) (ja_nil)))) (je_str)) (jw_or1 (jt_cmp (op_neD hr.units) pure_ne (je_call (ok_law_parsed T) rfl (hr.mono (by decide)) T.g__law_parsed T.F__law_parsed.kp (Binds.all T.e__law_parsed) (takes_of rfl rfl rfl rfl) (ja_cons (je_int) (ja_cons (je_op2 op_mulS pure_mulS (je_str) (je_int)) (ja_nil)))) (je_str)))))) (js_one (js_ret (je_bl))) (js_nil))
    (js_cons (js_setL (i := 0) sc_law_rejected.nd (ja_cons (je_non) (ja_cons (je_int) (ja_cons (je_str) (ja_cons (je_str) (ja_cons (je_str) (ja_cons (je_str) (ja_cons (je_str) (ja_cons (je_str) (ja_cons (je_str) (ja_cons (je_str) (ja_cons (je_str) (ja_cons (je_str) (ja_cons (je_str) (ja_cons (je_str) (ja_cons (je_str) (ja_cons (je_str) (ja_nil))))))))))))))))))
    (js_cons (js_if (JW.jt (jw_or (jt_cmp (op_neD hr.units) pure_ne (je_lc (i := 3) (own := [("bad", 3)]) sc_law_rejected.nd (je_var 0) (blkOk_by (own := [("bad", 3)]) (N := ["odd", "line", "key", "bad"]) (sc := defScope s_law_rejected) (by decide +kernel)) (fun _ _ _ _ _ => pg_name (i := 3) sc_law_rejected.nd rfl (by first | exact Or.inl rfl | exact Or.inr rfl)) (fun _ _ _ _ _ => jts_nil) (fun _ _ _ _ _ => je_call (ok_law_parsed T) rfl (hr.mono (by decide)) T.g__law_parsed T.F__law_parsed.kp (Binds.all T.e__law_parsed) takes0 (ja_cons (je_int) (ja_cons (je_var 3) (ja_nil))))) (je_op2 op_rep pure_repL (je_lst (ja_cons (je_str) (ja_nil))) (je_int))) (jw_or (jt_cmp (op_neD hr.units) pure_ne (je_call (ok_law_parsed T) rfl (hr.mono (by decide)) T.g__law_parsed T.F__law_parsed.kp (Binds.all T.e__law_parsed) (takes_of rfl rfl rfl rfl) (ja_cons (je_int) (ja_cons (je_str) (ja_nil)))) (je_lst (ja_cons (je_lst (ja_nil)) (ja_nil)))) (jw_or1 (jt_cmp (op_neD hr.units) pure_ne (je_call (ok_format_order T) rfl (hr.mono (by decide)) T.g_format_order T.F_format_order.kp (Binds.all T.e_format_order) (takes_of rfl rfl rfl rfl) (ja_cons (je_lst (ja_nil)) (ja_nil))) (je_str)))))) (js_one (js_ret (je_bl))) (js_nil))
    (js_one (js_ret (je_and (je_cmp (op_eqD hr.units) pure_eq (je_call (ok_law_parsed T) rfl (hr.mono (by decide)) T.g__law_parsed T.F__law_parsed.kp (Binds.all T.e__law_parsed) (takes_of rfl rfl rfl rfl) (ja_cons (je_int) (ja_cons (je_str) (ja_nil)))) (je_lst (ja_cons (je_lst (ja_cons (je_int) (ja_cons (je_int) (ja_cons (je_int) (ja_nil))))) (ja_nil)))) (je_one (je_cmp (op_eqD hr.units) pure_eq (je_call (ok_format_tree T) rfl (hr.mono (by decide)) T.g_format_tree T.F_format_tree.kp (Binds.all T.e_format_tree) (takes_of rfl rfl rfl rfl) (ja_cons (je_non) (ja_nil))) (je_str))))))))))))
theorem sc_law : FnScope ["script", "draws", "order", "tree", "turn", "text", "words", "kind", "own", "at", "mark", "other", "found"] ["script"] (defScope s_law) := ⟨rfl, rfl, rfl, by decide +kernel, rfl, by decide +kernel, by decide +kernel⟩
abbrev b_law_0 : M Flw :=
    mThen (mSet 8 (mOp2 ixD (mSeq .list (mCons (mVar 5) (mCons (mVar 6) (mNil)))) (mVar 7)))
    (mThen (mSet 9 (mFn 2 F_law_draw (mCons (mVar 1) (mCons (mOp2 addD (mCall lenD (mCons (mVar 8) (mNil))) (mC (.int 1))) (mNil)))))
    (mThen (mSet 10 (mFn 2 F_law_pick (mCons (mVar 1) (mCons (mSeq .list (mCons (mC (.str "0")) (mCons (mC (.str "1")) (mCons (mC (.str "9")) (mCons (mC (.str ".")) (mCons (mC (.str "(")) (mCons (mC (.str ")")) (mCons (mC (.str " ")) (mCons (mC (.str "-")) (mCons (mC (.str "")) (mNil))))))))))) (mNil)))))
    (mThen (mSet 11 (mFn 2 F_law_pick (mCons (mVar 1) (mCons (mSeq .list (mCons (mOp2 addD (mOp2 addD (mSlice (mVar 8) (mNoPart) (mPart (mVar 9))) (mVar 10)) (mSlice (mVar 8) (mPart (mOp2 addD (mVar 9) (mC (.int 1)))) (mNoPart))) (mCons (mOp2 addD (mOp2 addD (mSlice (mVar 8) (mNoPart) (mPart (mVar 9))) (mVar 10)) (mSlice (mVar 8) (mPart (mVar 9)) (mNoPart))) (mNil)))) (mNil)))))
    (mThen (mSet 12 (mFn 2 F_law_parsed (mCons (mVar 7) (mCons (mVar 11) (mNil)))))
    (mIf (mAnd (mTest (mOp2 neD (mVar 12) (mC (.str "text")))) (mTest (mOp2 neD (mVar 11) (mIf (mTest (mOp2 eqD (mVar 7) (mC (.int 0)))) (mFn 1 F_law_written (mCons (mOp2 ixD (mVar 12) (mC (.int 0))) (mNil))) (mFn 1 F_law_words (mCons (mOp2 ixD (mVar 12) (mC (.int 0))) (mNil))))))) (mRet (mC (.bool false))) (mNx))))))
abbrev b_law_1 : M Flw :=
    mFor 7 (mSeq .list (mCons (mC (.int 0)) (mCons (mC (.int 1)) (mNil)))) (b_law_0)
def ml_5 : M Flw :=
    mRet (mFn 0 F_law_rejected mNil)
def ml_4 : M Flw :=
    mThen (mForR1 4 (mCons (mC (.int 8)) (mNil)) (b_law_1)) ml_5
def ml_3 : M Flw :=
    mThen (mIf (mOr (mTest (mOp2 neD (mVar 5) (mFn 1 F_law_written (mCons (mVar 3) (mNil))))) (mOr (mTest (mOp2 neD (mFn 1 F_parse_tree (mCons (mVar 5) (mNil))) (mVar 3))) (mOr (mTest (mOp2 neD (mVar 6) (mFn 1 F_law_words (mCons (mVar 2) (mNil))))) (mTest (mOp2 neD (mFn 1 F_parse_order (mCons (mVar 6) (mNil))) (mVar 2)))))) (mRet (mC (.bool false))) (mNx)) ml_4
def ml_2 : M Flw :=
    mThen (mPar 5 6 (mCons (mFn 1 F_format_tree (mCons (mVar 3) (mNil))) (mCons (mFn 1 F_format_order (mCons (mVar 2) (mNil))) (mNil)))) ml_3
def ml_1 : M Flw :=
    mThen (mSet 3 (mFn 1 F_law_tree (mCons (mVar 2) (mNil)))) ml_2
def ml_0 : M Flw :=
    mThen (mSet 2 (mFn 2 F_law_order (mCons (mVar 1) (mCons (mC (.int 9)) (mNil))))) ml_1
def m_law : M Flw := ml_0
theorem ok_law (T : Txt K mg) (hrun : ∀ ns : List Int, 0 < ns.length → ns.length ≤ 63 → ∃ st', m_law (lawStart 13 1 ns) = .ok (.ret (.dat (.bool true))) st') : FnOk P w K mg base (L2.CX P w) 22 T.a_law T.d_law ["script"] (spLaw K) :=
  law_ok (k := 21) (i := 1) T.cls T.F_law sc_law rfl (by decide) (fun cdv A outer s H E hr => ps_set (i := 1) sc_law.nd rfl (by first | exact Or.inl rfl | exact Or.inr rfl) (pe_callS (ok_law_start T) (hr.mono (by decide)) rfl T.g__law_start T.F__law_start.kp (Binds.all T.e__law_start) (fun σ => passAt (takes_of rfl rfl rfl rfl) σ) (pa_cons (pv 0) pa_nil)))
    (fun cdv A outer s H E hr =>
    js_cons (js_set (i := 2) sc_law.nd (je_call (ok_law_order T) rfl (hr.mono (by decide)) T.g__law_order T.F__law_order.kp (Binds.all T.e__law_order) (takes_of rfl rfl rfl rfl) (ja_cons (je_var 1) (ja_cons (je_int) (ja_nil)))))
    (js_cons (js_set (i := 3) sc_law.nd (je_call (ok_law_tree T) rfl (hr.mono (by decide)) T.g__law_tree T.F__law_tree.kp (Binds.all T.e__law_tree) (takes_of rfl rfl rfl rfl) (ja_cons (je_var 2) (ja_nil))))
    (js_cons (js_par (i := 5) (j := 6) sc_law.nd (ja_cons (je_call (ok_format_tree T) rfl (hr.mono (by decide)) T.g_format_tree T.F_format_tree.kp (Binds.all T.e_format_tree) (takes_of rfl rfl rfl rfl) (ja_cons (je_var 3) (ja_nil))) (ja_cons (je_call (ok_format_order T) rfl (hr.mono (by decide)) T.g_format_order T.F_format_order.kp (Binds.all T.e_format_order) (takes_of rfl rfl rfl rfl) (ja_cons (je_var 2) (ja_nil))) (ja_nil))))
    (js_cons (js_if (JW.jt (jw_or (jt_cmp (op_neD hr.units) pure_ne (je_var 5) (je_call (ok_law_written T) rfl (hr.mono (by decide)) T.g__law_written T.F__law_written.kp (Binds.all T.e__law_written) (takes_of rfl rfl rfl rfl) (ja_cons (je_var 3) (ja_nil)))) (jw_or (jt_cmp (op_neD hr.units) pure_ne (je_call (ok_parse_tree T) rfl (hr.mono (by decide)) T.g_parse_tree T.F_parse_tree.kp (Binds.all T.e_parse_tree) (takes_of rfl rfl rfl rfl) (ja_cons (je_var 5) (ja_nil))) (je_var 3)) (jw_or (jt_cmp (op_neD hr.units) pure_ne (je_var 6) (je_call (ok_law_words T) rfl (hr.mono (by decide)) T.g__law_words T.F__law_words.kp (Binds.all T.e__law_words) (takes_of rfl rfl rfl rfl) (ja_cons (je_var 2) (ja_nil)))) (jw_or1 (jt_cmp (op_neD hr.units) pure_ne (je_call (ok_parse_order T) rfl (hr.mono (by decide)) T.g_parse_order T.F_parse_order.kp (Binds.all T.e_parse_order) (takes_of rfl rfl rfl rfl) (ja_cons (je_var 6) (ja_nil))) (je_var 2))))))) (js_one (js_ret (je_bl))) (js_nil))
    (js_cons (js_forR1 (i := 4) sc_law.nd (passes_of rfl) T.z_range (ja_cons (je_int) (ja_nil)) (js_one (js_for (i := 7) sc_law.nd (passes_of rfl) (je_lst (ja_cons (je_int) (ja_cons (je_int) (ja_nil)))) (js_cons (js_set (i := 8) sc_law.nd (je_ix ix_seq pure_ix (je_lst (ja_cons (je_var 5) (ja_cons (je_var 6) (ja_nil)))) (je_var 7)))
    (js_cons (js_set (i := 9) sc_law.nd (je_call (ok_law_draw T) rfl (hr.mono (by decide)) T.g__law_draw T.F__law_draw.kp (Binds.all T.e__law_draw) (takes_of rfl rfl rfl rfl) (ja_cons (je_var 1) (ja_cons (je_op2 op_addA pure_add (je_callB call_lenA pure_len T.z_len PySem.boot_len (ja_cons (je_var 8) (ja_nil))) (je_int)) (ja_nil)))))
    (js_cons (js_set (i := 10) sc_law.nd (je_call (ok_law_pick T) rfl (hr.mono (by decide)) T.g__law_pick T.F__law_pick.kp (Binds.all T.e__law_pick) (takes_of rfl rfl rfl rfl) (ja_cons (je_var 1) (ja_cons (je_lst (ja_cons (je_str) (ja_cons (je_str) (ja_cons (je_str) (ja_cons (je_str) (ja_cons (je_str) (ja_cons (je_str) (ja_cons (je_str) (ja_cons (je_str) (ja_cons (je_str) (ja_nil))))))))))) (ja_nil)))))
    (js_cons (js_set (i := 11) sc_law.nd (je_call (ok_law_pick T) rfl (hr.mono (by decide)) T.g__law_pick T.F__law_pick.kp (Binds.all T.e__law_pick) (takes_of rfl rfl rfl rfl) (ja_cons (je_var 1) (ja_cons (je_lst (ja_cons (je_op2 op_addA pure_add (je_op2 op_addA pure_add (je_slice (je_var 8) (jo_none) (jo_some (je_var 9))) (je_var 10)) (je_slice (je_var 8) (jo_some (je_op2 op_addA pure_add (je_var 9) (je_int))) (jo_none))) (ja_cons (je_op2 op_addA pure_add (je_op2 op_addA pure_add (je_slice (je_var 8) (jo_none) (jo_some (je_var 9))) (je_var 10)) (je_slice (je_var 8) (jo_some (je_var 9)) (jo_none))) (ja_nil)))) (ja_nil)))))
    (js_cons (js_set (i := 12) sc_law.nd (je_call (ok_law_parsed T) rfl (hr.mono (by decide)) T.g__law_parsed T.F__law_parsed.kp (Binds.all T.e__law_parsed) (takes_of rfl rfl rfl rfl) (ja_cons (je_var 7) (ja_cons (je_var 11) (ja_nil)))))
    (js_one (js_if (JW.jt (jw_and (jt_cmp (op_neD hr.units) pure_ne (je_var 12) (je_str)) (jw_and1 (jt_cmp (op_neD hr.units) pure_ne (je_var 11) (je_ifExp (jt_cmp (op_eqD hr.units) pure_eq (je_var 7) (je_int)) (je_call (ok_law_written T) rfl (hr.mono (by decide)) T.g__law_written T.F__law_written.kp (Binds.all T.e__law_written) (takes_of rfl rfl rfl rfl) (ja_cons (je_ix ix_seq pure_ix (je_var 12) (je_int)) (ja_nil))) (je_call (ok_law_words T) rfl (hr.mono (by decide)) T.g__law_words T.F__law_words.kp (Binds.all T.e__law_words) (takes_of rfl rfl rfl rfl) (ja_cons (je_ix ix_seq pure_ix (je_var 12) (je_int)) (ja_nil)))))))) (js_one (js_ret (je_bl))) (js_nil)))))))))))
    (js_one (js_ret (je_call0 (ok_law_rejected T) rfl (hr.mono (by decide)) T.g__law_rejected T.F__law_rejected.kp (Binds.all T.e__law_rejected) (takes_of rfl rfl rfl rfl))))))))) hrun
end
theorem txt_mk {K : PySem.W.Frag} {mg : Str → Option Value} {a0 a1 a2 a3 a4 a5 a6 a7 : Addr} (er : Nonempty (Errs K mg (clsOf (errA a0 a1 a2 a3 a4 a5 a6 a7) 0 0))) (h_is_int : Def K mg "is_int" s_is_int ["value", "low", "high"]) (h_is_key : Def K mg "is_key" s_is_key ["value"]) (h_is_order : Def K mg "is_order" s_is_order ["value"]) (h_check_order : Def K mg "check_order" s_check_order ["value"]) (h_is_part : Def K mg "is_part" s_is_part ["value", "low", "high", "room"]) (h_is_tree : Def K mg "is_tree" s_is_tree ["value"]) (h_check_tree : Def K mg "check_tree" s_check_tree ["tree"]) (h_written : Def K mg "written" s_written ["tree"]) (h_format_tree : Def K mg "format_tree" s_format_tree ["tree"]) (h_read_number : Def K mg "read_number" s_read_number ["text", "at"]) (h_expect : Def K mg "expect" s_expect ["text", "at", "sign"]) (h_read_tree : Def K mg "read_tree" s_read_tree ["text", "at", "depth"]) (h_parse_tree : Def K mg "parse_tree" s_parse_tree ["text"]) (h_format_order : Def K mg "format_order" s_format_order ["order"]) (h_parse_order : Def K mg "parse_order" s_parse_order ["text"]) (h__law_start : Def K mg "_law_start" s_law_start ["script"]) (h__law_draw : Def K mg "_law_draw" s_law_draw ["draws", "limit"]) (h__law_pick : Def K mg "_law_pick" s_law_pick ["draws", "choices"]) (h__law_error : Def K mg "_law_error" s_law_error ["caught"]) (h__law_order : Def K mg "_law_order" s_law_order ["draws", "most"]) (h__law_leaf : Def K mg "_law_leaf" s_law_leaf ["tree", "key"]) (h__law_tree : Def K mg "_law_tree" s_law_tree ["order"]) (h__law_written : Def K mg "_law_written" s_law_written ["tree"]) (h__law_words : Def K mg "_law_words" s_law_words ["order"]) (h__law_parsed : Def K mg "_law_parsed" s_law_parsed ["kind", "text"]) (h__law_rejected : Def K mg "_law_rejected" s_law_rejected []) (h_law : Def K mg "law" s_law ["script"]) (z_ValueError : mg "ValueError" = none) (z_all : mg "all" = none) (z_bool : mg "bool" = none) (z_int : mg "int" = none) (z_isinstance : mg "isinstance" = none) (z_len : mg "len" = none) (z_list : mg "list" = none) (z_range : mg "range" = none) (z_sorted : mg "sorted" = none) (z_str : mg "str" = none) (z_tuple : mg "tuple" = none) (c_MOST_KEY : ∃ t, mg "MOST_KEY" = some (.int 99 t)) (c_MOST_KEYS : ∃ t, mg "MOST_KEYS" = some (.int 9 t)) (c_DIGITS : ∃ t, mg "DIGITS" = some (.str "0123456789" t)) : Nonempty (Txt K mg) := by
  obtain ⟨er⟩ := er
  obtain ⟨a_is_int, d_is_int, F_is_int, g_is_int, e_is_int⟩ := h_is_int
  obtain ⟨a_is_key, d_is_key, F_is_key, g_is_key, e_is_key⟩ := h_is_key
  obtain ⟨a_is_order, d_is_order, F_is_order, g_is_order, e_is_order⟩ := h_is_order
  obtain ⟨a_check_order, d_check_order, F_check_order, g_check_order, e_check_order⟩ := h_check_order
  obtain ⟨a_is_part, d_is_part, F_is_part, g_is_part, e_is_part⟩ := h_is_part
  obtain ⟨a_is_tree, d_is_tree, F_is_tree, g_is_tree, e_is_tree⟩ := h_is_tree
  obtain ⟨a_check_tree, d_check_tree, F_check_tree, g_check_tree, e_check_tree⟩ := h_check_tree
  obtain ⟨a_written, d_written, F_written, g_written, e_written⟩ := h_written
  obtain ⟨a_format_tree, d_format_tree, F_format_tree, g_format_tree, e_format_tree⟩ := h_format_tree
  obtain ⟨a_read_number, d_read_number, F_read_number, g_read_number, e_read_number⟩ := h_read_number
  obtain ⟨a_expect, d_expect, F_expect, g_expect, e_expect⟩ := h_expect
  obtain ⟨a_read_tree, d_read_tree, F_read_tree, g_read_tree, e_read_tree⟩ := h_read_tree
  obtain ⟨a_parse_tree, d_parse_tree, F_parse_tree, g_parse_tree, e_parse_tree⟩ := h_parse_tree
  obtain ⟨a_format_order, d_format_order, F_format_order, g_format_order, e_format_order⟩ := h_format_order
  obtain ⟨a_parse_order, d_parse_order, F_parse_order, g_parse_order, e_parse_order⟩ := h_parse_order
  obtain ⟨a__law_start, d__law_start, F__law_start, g__law_start, e__law_start⟩ := h__law_start
  obtain ⟨a__law_draw, d__law_draw, F__law_draw, g__law_draw, e__law_draw⟩ := h__law_draw
  obtain ⟨a__law_pick, d__law_pick, F__law_pick, g__law_pick, e__law_pick⟩ := h__law_pick
  obtain ⟨a__law_error, d__law_error, F__law_error, g__law_error, e__law_error⟩ := h__law_error
  obtain ⟨a__law_order, d__law_order, F__law_order, g__law_order, e__law_order⟩ := h__law_order
  obtain ⟨a__law_leaf, d__law_leaf, F__law_leaf, g__law_leaf, e__law_leaf⟩ := h__law_leaf
  obtain ⟨a__law_tree, d__law_tree, F__law_tree, g__law_tree, e__law_tree⟩ := h__law_tree
  obtain ⟨a__law_written, d__law_written, F__law_written, g__law_written, e__law_written⟩ := h__law_written
  obtain ⟨a__law_words, d__law_words, F__law_words, g__law_words, e__law_words⟩ := h__law_words
  obtain ⟨a__law_parsed, d__law_parsed, F__law_parsed, g__law_parsed, e__law_parsed⟩ := h__law_parsed
  obtain ⟨a__law_rejected, d__law_rejected, F__law_rejected, g__law_rejected, e__law_rejected⟩ := h__law_rejected
  obtain ⟨a_law, d_law, F_law, g_law, e_law⟩ := h_law
  exact ⟨⟨clsOf (errA a0 a1 a2 a3 a4 a5 a6 a7) 0 0, er, a_is_int, d_is_int, F_is_int, g_is_int, e_is_int, a_is_key, d_is_key, F_is_key, g_is_key, e_is_key, a_is_order, d_is_order, F_is_order, g_is_order, e_is_order, a_check_order, d_check_order, F_check_order, g_check_order, e_check_order, a_is_part, d_is_part, F_is_part, g_is_part, e_is_part, a_is_tree, d_is_tree, F_is_tree, g_is_tree, e_is_tree, a_check_tree, d_check_tree, F_check_tree, g_check_tree, e_check_tree, a_written, d_written, F_written, g_written, e_written, a_format_tree, d_format_tree, F_format_tree, g_format_tree, e_format_tree, a_read_number, d_read_number, F_read_number, g_read_number, e_read_number, a_expect, d_expect, F_expect, g_expect, e_expect, a_read_tree, d_read_tree, F_read_tree, g_read_tree, e_read_tree, a_parse_tree, d_parse_tree, F_parse_tree, g_parse_tree, e_parse_tree, a_format_order, d_format_order, F_format_order, g_format_order, e_format_order, a_parse_order, d_parse_order, F_parse_order, g_parse_order, e_parse_order, a__law_start, d__law_start, F__law_start, g__law_start, e__law_start, a__law_draw, d__law_draw, F__law_draw, g__law_draw, e__law_draw, a__law_pick, d__law_pick, F__law_pick, g__law_pick, e__law_pick, a__law_error, d__law_error, F__law_error, g__law_error, e__law_error, a__law_order, d__law_order, F__law_order, g__law_order, e__law_order, a__law_leaf, d__law_leaf, F__law_leaf, g__law_leaf, e__law_leaf, a__law_tree, d__law_tree, F__law_tree, g__law_tree, e__law_tree, a__law_written, d__law_written, F__law_written, g__law_written, e__law_written, a__law_words, d__law_words, F__law_words, g__law_words, e__law_words, a__law_parsed, d__law_parsed, F__law_parsed, g__law_parsed, e__law_parsed, a__law_rejected, d__law_rejected, F__law_rejected, g__law_rejected, e__law_rejected, a_law, d_law, F_law, g_law, e_law, z_ValueError, z_all, z_bool, z_int, z_isinstance, z_len, z_list, z_range, z_sorted, z_str, z_tuple, c_MOST_KEY, c_MOST_KEYS, c_DIGITS⟩⟩
end Tx
namespace Tx
open PySem JL L2
theorem is_int_int (i lo hi : Int) (gs : List GO) : F_is_int [.dat (.int i), .dat (.int lo), .dat (.int hi)] gs = .ok (.dat (.bool (decide (lo ≤ i) && decide (i ≤ hi)))) gs := by
  by_cases h : lo ≤ i <;> simp [F_is_int, m_is_int, h]
theorem is_key_int (i : Int) (gs : List GO) : F_is_key [.dat (.int i)] gs = .ok (.dat (.bool (decide (0 ≤ i) && decide (i ≤ 99)))) gs := by
  simp [F_is_key, m_is_key, is_int_int]
theorem is_order_ok {ns : List Int} (h : Tr.Ord ns) (gs : List GO) : F_is_order [.dat (encL ns)] gs = .ok (.dat (.bool true)) gs := by
  have hl := h.few
  have hc := comp_ints (i := 1) (el := mFn 1 F_is_key (mCons (mVar 1) mNil)) (fun i => .bool (decide (0 ≤ i) && decide (i ≤ 99))) ns [.dat (encL ns), .un] gs (by simp) rfl rfl (by omega) fun n hn acc => by simp [is_key_int]
  have hb : allB (ns.map fun i => decide (0 ≤ i) && decide (i ≤ 99)) = true := by
    unfold allB
    rw [List.all_map, List.all_eq_true]
    intro i hi
    have := h.rng i hi
    simp [this.1, this.2]
  have hn : nubI ns [] = ns := nubI_nodup ns [] h.nd
  have hl2 : ns.length ≤ maxLen := by unfold maxLen; omega
  have h9 : ¬ (9 : Int) < (ns.length : Int) := by omega
  simp [F_is_order, m_is_order, hc, hn, hl2, h9, hb]
theorem check_order_ok {ns : List Int} (h : Tr.Ord ns) (gs : List GO) : F_check_order [.dat (encL ns)] gs = .ok (.dat .none) gs := by
  simp [F_check_order, m_check_order, is_order_ok h]
theorem is_part_ok (t : Tr) : ∀ (n : Nat) (lo hi room : Int) (gs : List GO), t.height < n → Tr.Bst t → (∀ x ∈ t.keys, (0 ≤ x ∧ x ≤ 99) ∧ lo < x ∧ x < hi) → (t.size : Int) ≤ room →
    f_is_part n [.dat (enc t), .dat (.int lo), .dat (.int hi), .dat (.int room)] gs = .ok (.dat (.int t.size)) gs := by
  induction t with
  | nil =>
    intro n lo hi room gs h _ _ _
    cases n with
    | zero => omega
    | succ n => simp [f_is_part, m_is_part, Tr.size]
  | node l k r ihl ihr =>
    intro n lo hi room gs h hb hk hr
    cases n with
    | zero => omega
    | succ n =>
      simp only [Tr.height] at h
      simp only [Tr.size] at hr
      obtain ⟨b1, b2, b3, b4⟩ := Tr.bst_node.mp hb
      have kk := hk k (by simp [Tr.keys])
      have hl := ihl n lo k (room - 1) gs (by omega) b1 (fun x hx => by have := hk x (by simp [Tr.keys, hx]); exact ⟨this.1, this.2.1, b3 x hx⟩) (by omega)
      have hr' := ihr n k hi (room - 1 - (l.size : Int)) gs (by omega) b2 (fun x hx => by have := hk x (by simp [Tr.keys, hx]); exact ⟨this.1, b4 x hx, this.2.2⟩) (by omega)
      have h0 : ¬ room = 0 := by omega
      simp [f_is_part, m_is_part, h0, is_key_int, kk.1.1, kk.1.2, kk.2.1, kk.2.2, atI, ixN, hl, hr', Tr.size]
theorem is_tree_ok {t : Tr} (h : t.Ok) (gs : List GO) : F_is_tree [.dat (enc t)] gs = .ok (.dat (.bool true)) gs := by
  have hh := t.height_le
  have hf := h.few
  have := is_part_ok t 15 (-1) 100 9 gs (by omega) h.bst (fun x hx => by have := h.rng x hx; exact ⟨this, by omega, by omega⟩) (by omega)
  simp [F_is_tree, m_is_tree, F_is_part, this]
theorem check_tree_ok {t : Tr} (h : t.Ok) (gs : List GO) : F_check_tree [.dat (enc t)] gs = .ok (.dat .none) gs := by
  simp [F_check_tree, m_check_tree, is_tree_ok h]
end Tx
namespace Tx
open PySem JL L2
theorem draw_ok {ns : List Int} {c lim : Int} (h0 : 0 < ns.length) (h1 : ns.length ≤ 63) (l0 : 0 < lim) (l1 : lim < 1000000) (rest : List GO) : F_law_draw [.hdl 0, .dat (.int lim)] (.drw ns c :: rest) = .ok (.dat (.int (drawVal ns c lim))) (.drw (drawRow ns c lim) (c + 1) :: rest) := by
  have hc : 0 < ns.length ∧ ns.length ≤ 1000 ∧ 0 < lim ∧ lim < 1073741824 := ⟨h0, by omega, l0, by omega⟩
  simp only [F_law_draw, fsDraw, List.getElem?_cons_zero, if_pos hc, List.set_cons_zero]
theorem pick_ok {ns : List Int} {c : Int} (h0 : 0 < ns.length) (h1 : ns.length ≤ 63) (ds : List PyData) (d0 : 0 < ds.length) (d1 : ds.length < 1000000) (rest : List GO) :
    ∃ d ∈ ds, F_law_pick [.hdl 0, .dat (.list ds)] (.drw ns c :: rest) = .ok (.dat d) (.drw (drawRow ns c ds.length) (c + 1) :: rest) := by
  have hv0 := drawVal_nonneg ns c (ds.length : Int) (by omega)
  have hv1 := drawVal_lt ns c (ds.length : Int) (by omega)
  have hlt : (drawVal ns c (ds.length : Int)).toNat < ds.length := by omega
  refine ⟨ds[(drawVal ns c (ds.length : Int)).toNat], List.getElem_mem _, ?_⟩
  have e := draw_ok (c := c) (lim := (ds.length : Int)) h0 h1 (by omega) (by omega) rest
  simp [F_law_pick, m_law_pick, e, atI, ixN, hv0, hv1, List.getElem?_eq_getElem hlt]
theorem order_loop (wide : Int) (w0 : 0 < wide) (w1 : wide ≤ 100) (most : SV) (rest : List GO) (its : List PyData) : ∀ (acc : List Int) (ns : List Int) (c : Int) (s4 s5 : SV), 0 < ns.length → ns.length ≤ 63 → acc.Nodup → (∀ x ∈ acc, 0 ≤ x ∧ x < wide) → acc.length + its.length ≤ 100 →
    ∃ (acc' ns' : List Int) (c' : Int) (s4' s5' : SV), loopM (putDat 4) (mThen (mSet 5 (mFn 2 F_law_draw (mCons (mVar 0) (mCons (mVar 3) (mNil))))) (mIf (mTest (mOp2 notInD (mVar 5) (mVar 2))) (mExpr (mAppend 2 (mCons (mVar 5) (mNil)))) (mNx))) its ⟨[.hdl 0, most, .own (acc.map .int), .dat (.int wide), s4, s5], .drw ns c :: rest⟩ =
      .ok .nx ⟨[.hdl 0, most, .own (acc'.map .int), .dat (.int wide), s4', s5'], .drw ns' c' :: rest⟩ ∧ acc'.Nodup ∧ (∀ x ∈ acc', 0 ≤ x ∧ x < wide) ∧ acc'.length ≤ acc.length + its.length ∧ ns'.length = ns.length := by
  induction its with
  | nil => intro acc ns c s4 s5 _ _ hn hr _; exact ⟨acc, ns, c, s4, s5, rfl, hn, hr, by simp, rfl⟩
  | cons d r ih =>
    intro acc ns c s4 s5 h0 h1 hn hr hl
    rw [List.length_cons] at hl
    have hd := draw_ok (c := c) (lim := wide) h0 h1 w0 (by omega) rest
    have hv0 := drawVal_nonneg ns c wide w0
    have hv1 := drawVal_lt ns c wide w0
    have hlen := drawRow_len ns c wide
    have hm : acc.length < maxLen := by unfold maxLen; omega
    by_cases hx : drawVal ns c wide ∈ acc
    · obtain ⟨acc', ns', c', s4', s5', e, q1, q2, q3, q4⟩ := ih acc (drawRow ns c wide) (c + 1) (.dat d) (.dat (.int (drawVal ns c wide))) (by omega) (by omega) hn hr (by omega)
      refine ⟨acc', ns', c', s4', s5', ?_, q1, q2, by rw [List.length_cons]; omega, by omega⟩
      rw [loopM]
      simp [hd, hx, e]
    · obtain ⟨acc', ns', c', s4', s5', e, q1, q2, q3, q4⟩ := ih (acc ++ [drawVal ns c wide]) (drawRow ns c wide) (c + 1) (.dat d) (.dat (.int (drawVal ns c wide))) (by omega) (by omega)
        (by
          refine List.nodup_append.mpr ⟨hn, by simp, fun a ha b hb => ?_⟩
          have : b = drawVal ns c wide := by simpa using hb
          subst this
          intro z
          subst z
          exact hx ha)
        (fun x hx => by
          rcases List.mem_append.mp hx with z | z
          · exact hr x z
          · have : x = drawVal ns c wide := by simpa using z
            subst this
            exact ⟨hv0, hv1⟩)
        (by rw [List.length_append, List.length_cons, List.length_nil]; omega)
      refine ⟨acc', ns', c', s4', s5', ?_, q1, q2, ?_, by omega⟩
      · rw [loopM]
        simp only [List.map_append, List.map_cons, List.map_nil] at e
        simp [hd, hx, hm, e]
      · rw [List.length_append, List.length_cons, List.length_nil] at q3
        rw [List.length_cons]
        omega
theorem sortI_nodup {ns : List Int} (h : ns.Nodup) : (sortI ns).Nodup := (sortI_perm ns).nodup_iff.mpr h
theorem order_ok {ns : List Int} {c : Int} (most : Int) (m0 : 1 ≤ most) (m1 : most ≤ 9) (h0 : 0 < ns.length) (h1 : ns.length ≤ 63) (rest : List GO) :
    ∃ order ns' c', F_law_order [.hdl 0, .dat (.int most)] (.drw ns c :: rest) = .ok (.dat (encL order)) (.drw ns' c' :: rest) ∧ Tr.Ord order ∧ (order.length : Int) ≤ most ∧ ns'.length = ns.length := by
  obtain ⟨d, hd, e1⟩ := pick_ok (c := c) h0 h1 [.int (most + 1), .int 30, .int 100] (by simp) (by simp) rest
  simp only [List.length_cons, List.length_nil] at e1
  obtain ⟨wide, rfl, w0, w1⟩ : ∃ wide : Int, d = .int wide ∧ 0 < wide ∧ wide ≤ 100 := by
    simp only [List.mem_cons, List.not_mem_nil, or_false] at hd
    rcases hd with rfl | rfl | rfl
    · exact ⟨_, rfl, by omega, by omega⟩
    · exact ⟨_, rfl, by omega, by omega⟩
    · exact ⟨_, rfl, by omega, by omega⟩
  have e1 : F_law_pick [.hdl 0, .dat (.list [.int (most + 1), .int 30, .int 100])] (.drw ns c :: rest) = .ok (.dat (.int wide)) (.drw (drawRow ns c 3) (c + 1) :: rest) := e1
  have hl1 := drawRow_len ns c 3
  have e2 := draw_ok (c := c + 1) (lim := most + 1) (ns := drawRow ns c 3) (by omega) (by omega) (by omega) (by omega) rest
  have v0 := drawVal_nonneg (drawRow ns c 3) (c + 1) (most + 1) (by omega)
  have v1 := drawVal_lt (drawRow ns c 3) (c + 1) (most + 1) (by omega)
  have hl2 := drawRow_len (drawRow ns c 3) (c + 1) (most + 1)
  have hlr : (rangeD 0 (drawVal (drawRow ns c 3) (c + 1) (most + 1))).length ≤ 9 := by
    unfold rangeD
    rw [List.length_map, List.length_range]
    omega
  have hlr2 : ((rangeD 0 (drawVal (drawRow ns c 3) (c + 1) (most + 1))).length : Int) ≤ most := by
    unfold rangeD
    rw [List.length_map, List.length_range]
    omega
  obtain ⟨acc, ns', c', s4, s5, e3, q1, q2, q3, q4⟩ := order_loop wide w0 w1 (.dat (.int most)) rest (rangeD 0 (drawVal (drawRow ns c 3) (c + 1) (most + 1))) [] (drawRow (drawRow ns c 3) (c + 1) (most + 1)) (c + 1 + 1) .un .un (by omega) (by omega) .nil (fun x hx => absurd hx (by simp)) (by simp; omega)
  simp only [List.map_nil] at e3
  have e4 := draw_ok (c := c') (lim := 6) (ns := ns') (by omega) (by omega) (by decide) (by decide) rest
  have hl4 := drawRow_len ns' c' 6
  have h62 : in62 (drawVal (drawRow ns c 3) (c + 1) (most + 1)) = true := in62_small (by omega) (by omega)
  simp only [List.length_nil, Nat.zero_add] at q3
  have hs : acc.length < 64 := by omega
  have ho : Tr.Ord acc := ⟨q1, fun x hx => ⟨(q2 x hx).1, by have := (q2 x hx).2; omega⟩, by omega⟩
  by_cases hz : drawVal ns' c' 6 = 0
  · refine ⟨sortI acc, drawRow ns' c' 6, c' + 1, ?_, ⟨sortI_nodup q1, fun x hx => ho.rng x ((sortI_perm acc).mem_iff.mp hx), by rw [(sortI_perm acc).length_eq]; omega⟩, by rw [(sortI_perm acc).length_eq]; omega, ?_⟩
    · simp [F_law_order, m_law_order, e1, e2, e3, e4, h62, hz, hs]
    · omega
  · refine ⟨acc, drawRow ns' c' 6, c' + 1, ?_, ho, by omega, by omega⟩
    simp [F_law_order, m_law_order, e1, e2, e3, e4, h62, hz]
end Tx
namespace JL
namespace Tr
/-- the keys with which x is compared -/
def path (x : Int) : Tr → List Int
  | .nil => []
  | .node l k r => k :: (if x = k then [] else if x < k then path x l else path x r)
theorem path_len (x : Int) : ∀ t : Tr, (path x t).length ≤ t.height
  | .nil => by simp [path]
  | .node l k r => by
    have h1 := path_len x l
    have h2 := path_len x r
    simp only [path, height, List.length_cons]
    split
    · simp
    · split <;> omega
/-- the ancestors of a key that is there -/
def anc (x : Int) : Tr → List Int
  | .nil => []
  | .node l k r => if x = k then [] else k :: (if x < k then anc x l else anc x r)
theorem path_anc (x : Int) : ∀ t : Tr, Bst t → x ∈ t.keys → path x t = anc x t ++ [x]
  | .nil, _, h => by simp [keys] at h
  | .node l k r, hb, h => by
    obtain ⟨b1, b2, b3, b4⟩ := bst_node.mp hb
    simp only [keys, List.mem_append, List.mem_singleton] at h
    simp only [path, anc]
    by_cases hx : x = k
    · simp [hx]
    · rw [if_neg hx, if_neg hx]
      by_cases hlt : x < k
      · rw [if_pos hlt, if_pos hlt, path_anc x l b1, List.cons_append]
        rcases h with (h | h) | h
        · exact h
        · exact absurd h hx
        · have := b4 x h; omega
      · rw [if_neg hlt, if_neg hlt, path_anc x r b2, List.cons_append]
        rcases h with (h | h) | h
        · have := b3 x h; omega
        · exact absurd h hx
        · exact h
/-- a new key: it is inserted where its path ends -/
theorem path_ins (x : Int) : ∀ t : Tr, x ∉ t.keys → path x (ins x t) = path x t ++ [x]
  | .nil, _ => by simp [path, ins]
  | .node l k r, h => by
    have n1 : x ∉ l.keys := fun z => h (by simp [keys, z])
    have n2 : x ∉ r.keys := fun z => h (by simp [keys, z])
    have n3 : x ≠ k := fun z => h (by simp [keys, z])
    unfold ins
    by_cases hlt : x < k
    · simp [path, hlt, n3, path_ins x l n1]
    · simp [path, hlt, n3, path_ins x r n2]
/-- depths by keys -/
def deep : Tr → Int → List Int
  | .nil, _ => []
  | .node l _ r, d => deep l (d + 1) ++ [d] ++ deep r (d + 1)
theorem deep_len : ∀ (t : Tr) (d : Int), (deep t d).length = t.size
  | .nil, _ => rfl
  | .node l k r, d => by simp [deep, size, deep_len l, deep_len r]; omega
end Tr
end JL
namespace Tx
open PySem JL L2
theorem path_loop (x : Int) : ∀ (t : Tr) (n : Nat) (acc : List Int) (gs : List GO), t.height < n → acc.length + t.height ≤ 1000 →
    ∃ (fl : Flw) (sv : SV), mWhile (mTest (mOp2 notND (mVar 0) (mC .none))) (mThen (mExpr (mAppend 2 (mCons (mOp2 ixD (mVar 0) (mC (.int 0))) (mNil)))) (mThen (mIf (mTest (mOp2 eqD (mVar 1) (mOp2 ixD (mVar 0) (mC (.int 0))))) (mRet (mVar 2)) (mNx)) (mSet 0 (mIf (mTest (mOp2 (cmpD ltI) (mVar 1) (mOp2 ixD (mVar 0) (mC (.int 0))))) (mOp2 ixD (mVar 0) (mC (.int 1))) (mOp2 ixD (mVar 0) (mC (.int 2)))))))
        n ⟨[.dat (enc t), .dat (.int x), .own (acc.map .int)], gs⟩ = .ok fl ⟨[sv, .dat (.int x), .own ((acc ++ t.path x).map .int)], gs⟩ ∧ (fl = .nx ∨ fl = .ret (.bor 2)) := by
  intro t
  induction t with
  | nil =>
    intro n acc gs h _
    cases n with
    | zero => omega
    | succ n => exact ⟨.nx, .dat .none, by simp [mWhile, Tr.path], .inl rfl⟩
  | node l k r ihl ihr =>
    intro n acc gs h ha
    cases n with
    | zero => omega
    | succ n =>
      simp only [Tr.height] at h ha
      have hm : acc.length < maxLen := by unfold maxLen; omega
      by_cases hx : x = k
      · refine ⟨.ret (.bor 2), .dat (enc (.node l k r)), ?_, .inr rfl⟩
        simp [mWhile, atI, ixN, hm, hx, Tr.path]
      · by_cases hlt : x < k
        · obtain ⟨fl, sv, e, hf⟩ := ihl n (acc ++ [k]) gs (by omega) (by rw [List.length_append, List.length_cons, List.length_nil]; omega)
          refine ⟨fl, sv, ?_, hf⟩
          simp only [List.map_append, List.map_cons, List.map_nil, List.append_assoc, List.singleton_append] at e
          simp [mWhile, atI, ixN, hm, hx, hlt, Tr.path, e]
        · obtain ⟨fl, sv, e, hf⟩ := ihr n (acc ++ [k]) gs (by omega) (by rw [List.length_append, List.length_cons, List.length_nil]; omega)
          refine ⟨fl, sv, ?_, hf⟩
          simp only [List.map_append, List.map_cons, List.map_nil, List.append_assoc, List.singleton_append] at e
          simp [mWhile, atI, ixN, hm, hx, hlt, Tr.path, e]
theorem Tr_small {t : Tr} (h : t.Ok) : t.height ≤ 9 := by have := t.height_le; have := h.few; omega
theorem law_leaf_ok (x : Int) (t : Tr) : ∀ (n : Nat) (gs : List GO), t.height < n → f_law_leaf n [.dat (enc t), .dat (.int x)] gs = .ok (.dat (enc (t.ins x))) gs := by
  induction t with
  | nil =>
    intro n gs h
    cases n with
    | zero => omega
    | succ n => simp [f_law_leaf, m_law_leaf, Tr.ins]
  | node l k r ihl ihr =>
    intro n gs h
    cases n with
    | zero => omega
    | succ n =>
      simp only [Tr.height] at h
      have h1 : l.height < n := by omega
      have h2 : r.height < n := by omega
      by_cases hx : x < k
      · simp [f_law_leaf, m_law_leaf, Tr.ins, atI, ixN, hx, ihl n gs h1]
      · simp [f_law_leaf, m_law_leaf, Tr.ins, atI, ixN, hx, ihr n gs h2]
theorem law_leaf_small (x : Int) {t : Tr} (h : t.size ≤ 9) (gs : List GO) : F_law_leaf [.dat (enc t), .dat (.int x)] gs = .ok (.dat (enc (t.ins x))) gs := law_leaf_ok x t 15 gs (by have := t.height_le; omega)
theorem law_tree_loop (o : SV) (ns : List Int) : ∀ (t : Tr) (sv : SV) (gs : List GO), t.size + ns.length ≤ 9 → ∃ sv', loopM (putDat 2) (mSet 1 (mFn 2 F_law_leaf (mCons (mVar 1) (mCons (mVar 2) mNil)))) (ns.map .int) ⟨[o, .dat (enc t), sv], gs⟩ = .ok .nx ⟨[o, .dat (enc (ns.foldl (fun t x => t.ins x) t)), sv'], gs⟩ := by
  induction ns with
  | nil => intro t sv gs _; exact ⟨sv, rfl⟩
  | cons n r ih =>
    intro t sv gs h
    rw [List.length_cons] at h
    obtain ⟨sv', e⟩ := ih (t.ins n) (.dat (.int n)) gs (by rw [Tr.ins_size]; omega)
    refine ⟨sv', ?_⟩
    rw [List.map_cons, loopM]
    simp [law_leaf_small n (t := t) (by omega), e]
theorem law_tree_ok {ns : List Int} (h : ns.length ≤ 9) (gs : List GO) : F_law_tree [.dat (encL ns)] gs = .ok (.dat (enc (Tr.ofL ns))) gs := by
  obtain ⟨sv, e⟩ := law_tree_loop (.dat (encL ns)) ns .nil .un gs (by simp [Tr.size]; omega)
  simp only [enc] at e
  simp [F_law_tree, m_law_tree, e, Tr.ofL]
theorem ahead_loop (x : Int) : ∀ (t : Tr) (n : Nat) (acc : List Int) (gs : List GO), t.height < n → acc.length + t.height ≤ 1000 → t.Bst → x ∈ t.keys →
    ∃ (sv : SV), mWhile (mTest (mOp2 neD (mOp2 ixD (mVar 0) (mC (.int 0))) (mVar 1))) (mThen (mExpr (mAppend 2 (mCons (mOp2 ixD (mVar 0) (mC (.int 0))) (mNil)))) (mSet 0 (mIf (mTest (mOp2 (cmpD ltI) (mVar 1) (mOp2 ixD (mVar 0) (mC (.int 0))))) (mOp2 ixD (mVar 0) (mC (.int 1))) (mOp2 ixD (mVar 0) (mC (.int 2))))))
        n ⟨[.dat (enc t), .dat (.int x), .own (acc.map .int)], gs⟩ = .ok .nx ⟨[sv, .dat (.int x), .own ((acc ++ t.anc x).map .int)], gs⟩ := by
  intro t
  induction t with
  | nil => intro n acc gs _ _ _ h; simp [Tr.keys] at h
  | node l k r ihl ihr =>
    intro n acc gs h ha hb hk
    obtain ⟨b1, b2, b3, b4⟩ := Tr.bst_node.mp hb
    simp only [Tr.keys, List.mem_append, List.mem_singleton] at hk
    cases n with
    | zero => omega
    | succ n =>
      simp only [Tr.height] at h ha
      have hm : acc.length < maxLen := by unfold maxLen; omega
      by_cases hx : x = k
      · refine ⟨.dat (enc (.node l k r)), ?_⟩
        simp [mWhile, atI, ixN, hx, Tr.anc]
      · have hx2 : ¬ k = x := fun z => hx z.symm
        by_cases hlt : x < k
        · have hl : x ∈ l.keys := by
            rcases hk with (h | h) | h
            · exact h
            · exact absurd h hx
            · have := b4 x h; omega
          obtain ⟨sv, e⟩ := ihl n (acc ++ [k]) gs (by omega) (by rw [List.length_append, List.length_cons, List.length_nil]; omega) b1 hl
          refine ⟨sv, ?_⟩
          simp only [List.map_append, List.map_cons, List.map_nil, List.append_assoc, List.singleton_append] at e
          simp [mWhile, atI, ixN, hm, hx, hx2, hlt, Tr.anc, e]
        · have hl : x ∈ r.keys := by
            rcases hk with (h | h) | h
            · have := b3 x h; omega
            · exact absurd h hx
            · exact h
          obtain ⟨sv, e⟩ := ihr n (acc ++ [k]) gs (by omega) (by rw [List.length_append, List.length_cons, List.length_nil]; omega) b2 hl
          refine ⟨sv, ?_⟩
          simp only [List.map_append, List.map_cons, List.map_nil, List.append_assoc, List.singleton_append] at e
          simp [mWhile, atI, ixN, hm, hx, hx2, hlt, Tr.anc, e]
end Tx
namespace Tx
open PySem JL L2
theorem ofL_size (r : List Int) : (Tr.ofL r).size = r.length := by
  unfold Tr.ofL
  rw [Tr.foldl_size]
  simp [Tr.size]
theorem ofL_shaped {r : List Int} (h : r.length ≤ 9) : SeqAt.shaped (enc (Tr.ofL r)) = true := shaped_enc (by have := (Tr.ofL r).height_le; rw [ofL_size] at this; omega)
theorem pick_rows {ns : List Int} {c : Int} (h0 : 0 < ns.length) (h1 : ns.length ≤ 63) (rs : List (List Int)) (d0 : 0 < rs.length) (d1 : rs.length < 1000000) (rest : List GO) :
    ∃ r ∈ rs, ∃ ns' c', F_law_pick [.hdl 0, .dat (.list (rs.map encL))] (.drw ns c :: rest) = .ok (.dat (encL r)) (.drw ns' c' :: rest) ∧ ns'.length = ns.length := by
  obtain ⟨d, hd, e⟩ := pick_ok (c := c) h0 h1 (rs.map encL) (by rw [List.length_map]; exact d0) (by rw [List.length_map]; exact d1) rest
  obtain ⟨r, hr, rfl⟩ := List.mem_map.mp hd
  exact ⟨r, hr, _, _, e, drawRow_len ..⟩
theorem ord_perm {ns r : List Int} (h : Tr.Ord ns) (p : r.Perm ns) : Tr.Ord r := ⟨p.nodup_iff.mpr h.nd, fun x hx => h.rng x (p.mem_iff.mp hx), by rw [p.length_eq]; exact h.few⟩
end Tx
namespace Tx
open PySem JL L2
theorem rej (ns : List Int) (c : Int) : F_law_rejected [] [.drw ns c] = .ok (.dat (.bool true)) [.drw ns c] := by kernel_rfl
end Tx
namespace JL
open PySem L2
def tx (l : List Nat) : PyData := .str ⟨l.toArray⟩
def decL (n : Nat) : List Nat := if n < 10 then [48 + n] else if n < 100 then [48 + n / 10, 48 + n % 10] else [48 + n / 100, 48 + n / 10 % 10, 48 + n % 10]
theorem decS_tx (n : Nat) : PyData.str (decS n) = tx (decL n) := by
  unfold decS decL tx
  split
  · rfl
  · split <;> rfl
theorem str_eq {s : Str} {l : List Nat} (h : s.cps.toList = l) : PyData.str s = tx l := by
  unfold tx
  rw [str_of_list h]
theorem tx_inj {a b : List Nat} (h : tx a = tx b) : a = b := by
  unfold tx at h
  injection h with h
  injection h with h
  have := congrArg Array.toList h
  simpa using this
/-- signs that are allowed -/
def Okl (l : List Nat) : Prop := ∀ c ∈ l, c < 1114112
theorem strok_tx {l : List Nat} (h : Okl l) : PyData.strOk ⟨l.toArray⟩ = true := by
  unfold PyData.strOk
  show l.toArray.all (fun x => decide (x < 1114112)) = true
  rw [List.all_toArray, List.all_eq_true]
  intro c hc
  exact decide_eq_true (h c hc)
theorem shaped_tx {l : List Nat} (h : Okl l) : SeqAt.shaped (tx l) = true := by
  unfold SeqAt.shaped tx
  rw [Bool.and_eq_true]
  refine ⟨?_, by simp [PyData.depth]⟩
  simp only [PyData.canLay0]
  exact strok_tx h
theorem eqv_tx (a b : List Nat) : PyData.eqv (tx a) (tx b) = decide (a = b) := by
  show ((⟨a.toArray⟩ : Str) == ⟨b.toArray⟩) = _
  by_cases c : a = b
  · subst c; simp
  · rw [decide_eq_false c]
    refine beq_eq_false_iff_ne.mpr fun z => c (tx_inj (congrArg PyData.str z))
theorem add_tx {a b : List Nat} (h : a.length + b.length ≤ maxLen) : addD (tx a) (tx b) = some (tx (a ++ b)) := by
  show (if (⟨a.toArray⟩ : Str).length + (⟨b.toArray⟩ : Str).length ≤ maxLen then _ else _) = _
  have e1 : (⟨a.toArray⟩ : Str).length = a.length := by simp [Str.length]
  have e2 : (⟨b.toArray⟩ : Str).length = b.length := by simp [Str.length]
  rw [e1, e2, if_pos h]
  congr 1
  refine str_eq ?_
  show (a.toArray ++ b.toArray).toList = _
  simp
theorem len_tx {a : List Nat} (h : a.length ≤ maxLen) : lenD [tx a] = some (.int (a.length : Int)) := by
  show (if (⟨a.toArray⟩ : Str).length ≤ maxLen then _ else _) = _
  have e1 : (⟨a.toArray⟩ : Str).length = a.length := by simp [Str.length]
  rw [e1, if_pos h]
theorem cut_nat {l : List Nat} {a b : Nat} : (l.drop (min a l.length)).take (min b l.length - min a l.length) = (l.drop a).take (b - a) := by
  by_cases h : a ≤ l.length
  · rw [Nat.min_eq_left h]
    by_cases h2 : b ≤ l.length
    · rw [Nat.min_eq_left h2]
    · rw [Nat.min_eq_right (by omega), List.take_of_length_le (by rw [List.length_drop]; omega), List.take_of_length_le (by rw [List.length_drop]; omega)]
  · rw [Nat.min_eq_right (Nat.le_of_not_le h), List.drop_eq_nil_of_le (Nat.le_refl _), List.drop_eq_nil_of_le (Nat.le_of_not_le h), List.take_nil, List.take_nil]
theorem slice_tx {l : List Nat} (h : l.length ≤ maxLen) (a b : Nat) : sliceD (tx l) (some (a : Int)) (some (b : Int)) = some (tx ((l.drop a).take (b - a))) := by
  show (if (⟨l.toArray⟩ : Str).length ≤ maxLen then some (PyData.str (cutS ⟨l.toArray⟩ (some (a : Int)) (some (b : Int)))) else none) = _
  have e1 : (⟨l.toArray⟩ : Str).length = l.length := by simp [Str.length]
  rw [e1, if_pos h]
  unfold cutS
  rw [e1, HT.sIx_nat, HT.sIx_nat]
  have := cut_nat (l := l) (a := a) (b := b)
  show some (PyData.str ⟨((l.toArray.toList.drop (min a l.length)).take (min b l.length - min a l.length)).toArray⟩) = _
  rw [this]
  rfl
theorem slice_to {l : List Nat} (h : l.length ≤ maxLen) (b : Nat) : sliceD (tx l) none (some (b : Int)) = some (tx (l.take b)) := by
  show (if (⟨l.toArray⟩ : Str).length ≤ maxLen then some (PyData.str (cutS ⟨l.toArray⟩ none (some (b : Int)))) else none) = _
  have e1 : (⟨l.toArray⟩ : Str).length = l.length := by simp [Str.length]
  rw [e1, if_pos h]
  unfold cutS
  rw [e1, HT.sIx_nat, HT.sIx_none]
  have := cut_nat (l := l) (a := 0) (b := b)
  rw [Nat.zero_min, Nat.sub_zero, Nat.sub_zero, List.drop_zero] at this
  show some (PyData.str ⟨((l.toArray.toList.drop 0).take (min b l.length - 0)).toArray⟩) = _
  simp only [List.drop_zero, Nat.sub_zero]
  rw [this]
  rfl
theorem slice_from {l : List Nat} (h : l.length ≤ maxLen) (a : Nat) : sliceD (tx l) (some (a : Int)) none = some (tx (l.drop a)) := by
  show (if (⟨l.toArray⟩ : Str).length ≤ maxLen then some (PyData.str (cutS ⟨l.toArray⟩ (some (a : Int)) none)) else none) = _
  have e1 : (⟨l.toArray⟩ : Str).length = l.length := by simp [Str.length]
  rw [e1, if_pos h]
  unfold cutS
  rw [e1, HT.sIx_nat, HT.sIx_none]
  have := cut_nat (l := l) (a := a) (b := l.length)
  rw [Nat.min_self] at this
  show some (PyData.str ⟨((l.toArray.toList.drop (min a l.length)).take (l.length - min a l.length)).toArray⟩) = _
  rw [this, List.take_of_length_le (by rw [List.length_drop]; omega)]
  rfl
theorem ix_tx {l : List Nat} (h : l.length ≤ maxLen) {k c : Nat} (e : l[k]? = some c) : ixSD (tx l) (.int (k : Int)) = some (tx [c]) := by
  show (if (⟨l.toArray⟩ : Str).length ≤ maxLen then (atI l.toArray.toList (k : Int)).map (fun c => PyData.str ⟨#[c]⟩) else none) = _
  have e1 : (⟨l.toArray⟩ : Str).length = l.length := by simp [Str.length]
  have hk : k < l.length := (List.getElem?_eq_some_iff.mp e).1
  rw [e1, if_pos h]
  have : atI l (k : Int) = some c := by
    unfold atI ixN
    have : l[k] = c := by rw [List.getElem?_eq_getElem hk] at e; exact Option.some.inj e
    simp [hk, this]
  rw [this]
  rfl
theorem dig_mem (c : Nat) : decide (c ∈ ("0123456789" : Str).cps.toList) = dig c := by
  have e : ("0123456789" : Str).cps.toList = [48, 49, 50, 51, 52, 53, 54, 55, 56, 57] := by decide +kernel
  rw [e]
  by_cases h : 48 ≤ c ∧ c ≤ 57
  · have : dig c = true := by
      unfold dig
      rw [Nat.ble_eq_true_of_le h.1, Nat.ble_eq_true_of_le h.2]
      rfl
    rw [this]
    refine decide_eq_true ?_
    obtain ⟨h1, h2⟩ := h
    simp only [List.mem_cons, List.not_mem_nil, or_false]
    omega
  · have : dig c = false := by
      cases hd : dig c with
      | false => rfl
      | true => exact absurd (dig_iff hd) h
    rw [this]
    refine decide_eq_false fun z => h ?_
    simp only [List.mem_cons, List.not_mem_nil, or_false] at z
    omega
theorem in_tx (c : Nat) : inSD (tx [c]) (.str "0123456789") = some (.bool (dig c)) := by
  show some (PyData.bool (decide (c ∈ ("0123456789" : Str).cps.toList))) = _
  rw [dig_mem]
theorem int_tx {l : List Nat} {n : Nat} (h : numL l = some n) : intD [tx l] = some (.int (n : Int)) := by
  show (numL l.toArray.toList).map (fun n => PyData.int (n : Nat)) = _
  have e : l.toArray.toList = l := by simp
  rw [e, h]
  rfl
theorem str_tx {n : Nat} (h : n < 1000) : strD [.int (n : Int)] = some (tx (decL n)) := by
  show (if 0 ≤ (n : Int) ∧ (n : Int) < 1000 then some (PyData.str (decS (n : Int).toNat)) else none) = _
  rw [if_pos (by omega), Int.toNat_natCast, decS_tx]
end JL
namespace JL
open PySem L2
namespace Tr
/-- the text of a tree -/
def wr : Tr → List Nat
  | .nil => [46]
  | .node l k r => 40 :: (decL k.toNat ++ 32 :: (wr l ++ 32 :: (wr r ++ [41])))
/-- its keys are keys -/
def Ks (t : Tr) : Prop := ∀ x ∈ t.keys, 0 ≤ x ∧ x ≤ 99
theorem ks_node {l r : Tr} {k : Int} : Ks (.node l k r) ↔ Ks l ∧ (0 ≤ k ∧ k ≤ 99) ∧ Ks r := by
  simp only [Ks, keys, List.mem_append, List.mem_singleton]
  constructor
  · intro h
    exact ⟨fun x hx => h x (.inl (.inl hx)), h k (.inl (.inr rfl)), fun x hx => h x (.inr hx)⟩
  · rintro ⟨h1, h2, h3⟩ x hx
    rcases hx with (z | z) | z
    · exact h1 x z
    · rw [z]; exact h2
    · exact h3 x z
end Tr
theorem decL_len (n : Nat) : 1 ≤ (decL n).length ∧ (decL n).length ≤ 3 := by
  unfold decL
  split
  · simp
  · split <;> simp
theorem Tr.wr_len : ∀ t : Tr, (wr t).length ≤ 8 * t.size + 1
  | .nil => by simp [wr, size]
  | .node l k r => by
    have h1 := wr_len l
    have h2 := wr_len r
    have h3 := decL_len k.toNat
    simp only [wr, size, List.length_cons, List.length_append, List.length_nil]
    omega
/-- the text of an order -/
def words (ns : List Int) : List Nat := joinL 32 (ns.map fun k => decL k.toNat)
theorem joinL_len (c : Nat) : ∀ ps : List (List Nat), (joinL c ps).length ≤ (ps.map (·.length)).sum + ps.length
  | [] => by simp [joinL]
  | [p] => by simp [joinL]
  | p :: q :: r => by
    have := joinL_len c (q :: r)
    rw [joinL]
    · simp only [List.length_append, List.length_cons, List.map_cons, List.sum_cons] at this ⊢
      omega
    · simp
theorem sum_dec (ns : List Int) : ((ns.map fun k => decL k.toNat).map (·.length)).sum ≤ 3 * ns.length := by
  induction ns with
  | nil => simp
  | cons n r ih =>
    have := decL_len n.toNat
    simp only [List.map_cons, List.sum_cons, List.length_cons]
    omega
theorem words_len (ns : List Int) : (words ns).length ≤ 4 * ns.length := by
  have h1 := joinL_len 32 (ns.map fun k => decL k.toNat)
  have h2 := sum_dec ns
  rw [List.length_map] at h1
  unfold words
  omega
theorem str_app (a b : List Nat) : (⟨a.toArray⟩ : Str) ++ (⟨b.toArray⟩ : Str) = ⟨(a ++ b).toArray⟩ := by
  refine Str.ext' ?_
  show a.toArray ++ b.toArray = _
  simp
theorem str_size (a : List Nat) : (⟨a.toArray⟩ : Str).length = a.length := by simp [Str.length]
theorem js_tx {m : M RV} {r : List (M RV)} {a b : List Nat} {st : ST} (h : m st = .ok (.dat (tx b)) st) (hl : a.length + b.length ≤ maxLen) : mJs (m :: r) ⟨a.toArray⟩ st = mJs r ⟨(a ++ b).toArray⟩ st := by
  rw [mJs]
  simp only [M.bind, h]
  show (if ((⟨a.toArray⟩ : Str) ++ (⟨b.toArray⟩ : Str)).length ≤ maxLen then mJs r ((⟨a.toArray⟩ : Str) ++ (⟨b.toArray⟩ : Str)) st else _) = _
  rw [str_app, str_size, if_pos (by rw [List.length_append]; exact hl)]
theorem js_end {a : List Nat} {st : ST} : mJs [] ⟨a.toArray⟩ st = .ok (.dat (tx a)) st := rfl
theorem fmt_tx {m : M RV} {b : List Nat} {st : ST} (h : m st = .ok (.dat (tx b)) st) (hl : b.length ≤ maxLen) : mFmt m st = .ok (.dat (tx b)) st := by
  unfold mFmt
  simp only [M.bind, h]
  show (if (⟨b.toArray⟩ : Str).length ≤ maxLen then _ else _) = _
  rw [str_size, if_pos hl]
  rfl
theorem fmt_int {m : M RV} {k : Int} {st : ST} (h : m st = .ok (.dat (.int k)) st) (h0 : 0 ≤ k ∧ k ≤ 99) : mFmt m st = .ok (.dat (tx (decL k.toNat))) st := by
  unfold mFmt
  simp only [M.bind, h]
  show (if 0 ≤ k ∧ k < 1000 then R.ok (RV.dat (.str (decS k.toNat))) st else _) = _
  rw [if_pos (by omega), decS_tx]
theorem strsOf_tx (ls : List (List Nat)) : strsOf (ls.map tx) = some (ls.map fun l => (⟨l.toArray⟩ : Str)) := by
  induction ls with
  | nil => rfl
  | cons l r ih =>
    show (strsOf (r.map tx)).bind _ = _
    rw [ih]
    rfl
theorem sp_str : (" " : Str) = ⟨#[32]⟩ := Str.ext' (by decide +kernel)
theorem join_tx {m : M RV} {rv : RV} {ls : List (List Nat)} {st st1 : ST} (h : m st = .ok rv st1) (hl : st1.look rv = some (.list (ls.map tx))) (hs : (ls.map (·.length)).sum + ls.length ≤ 100000) : mJoinC " " m st = .ok (.dat (tx (joinL 32 ls))) st1 := by
  unfold mJoinC
  simp only [M.bind, h, R.bind, hl, strsOf_tx]
  have hj : joinOkT " " (ls.map fun l => (⟨l.toArray⟩ : Str)) = true := by
    unfold joinOkT
    refine decide_eq_true ?_
    rw [sp_str, List.map_map, List.length_map]
    have : ((fun x : Str => x.length) ∘ fun l : List Nat => (⟨l.toArray⟩ : Str)) = fun l => l.length := by
      funext l; exact str_size l
    rw [this]
    show _ + ls.length * 1 ≤ _
    omega
  rw [if_pos hj]
  refine congrArg (fun d => R.ok (RV.dat d) st1) (str_eq ?_)
  rw [sp_str, join_list, List.map_map, show ((fun p : Str => p.cps.toList) ∘ fun l : List Nat => (⟨l.toArray⟩ : Str)) = id from funext fun l => by simp, List.map_id]
theorem c_lp : PyData.str ("(" : Str) = tx [40] := str_eq (by decide +kernel)
theorem c_rp : PyData.str (")" : Str) = tx [41] := str_eq (by decide +kernel)
theorem c_sp : PyData.str (" " : Str) = tx [32] := str_eq (by decide +kernel)
theorem c_dot : PyData.str ("." : Str) = tx [46] := str_eq (by decide +kernel)
theorem c_no : PyData.str ("" : Str) = tx [] := str_eq (by decide +kernel)
theorem c_text : PyData.str ("text" : Str) = tx [116, 101, 120, 116] := str_eq (by decide +kernel)
end JL
namespace Tx
open PySem JL L2
theorem written_ok (t : Tr) : ∀ (n : Nat) (gs : List GO), t.height < n → t.Ks → t.wr.length ≤ 1000 → f_written n [.dat (enc t)] gs = .ok (.dat (tx t.wr)) gs := by
  induction t with
  | nil =>
    intro n gs h _ _
    cases n with
    | zero => omega
    | succ n => simp [f_written, m_written, Tr.wr, c_dot]
  | node l k r ihl ihr =>
    intro n gs h hk hw
    cases n with
    | zero => omega
    | succ n =>
      simp only [Tr.height] at h
      obtain ⟨k1, k2, k3⟩ := Tr.ks_node.mp hk
      have h3 := decL_len k.toNat
      have hw0 := hw
      simp only [Tr.wr, List.length_cons, List.length_append, List.length_nil] at hw
      have hl := ihl n gs (by omega) k1 (by omega)
      have hr := ihr n gs (by omega) k3 (by omega)
      have hm : (1000 : Nat) ≤ maxLen := by decide
      have e1 : mFmt (mOp2 ixD (mVar 0) (mC (.int 0))) ⟨[.dat (enc (.node l k r))], gs⟩ = .ok (.dat (tx (decL k.toNat))) ⟨[.dat (enc (.node l k r))], gs⟩ := fmt_int (by simp [atI, ixN]) k2
      have e2 : mFmt (mFn 1 (f_written n) (mCons (mOp2 ixD (mVar 0) (mC (.int 1))) mNil)) ⟨[.dat (enc (.node l k r))], gs⟩ = .ok (.dat (tx l.wr)) ⟨[.dat (enc (.node l k r))], gs⟩ := fmt_tx (by simp [atI, ixN, hl]) (by omega)
      have e3 : mFmt (mFn 1 (f_written n) (mCons (mOp2 ixD (mVar 0) (mC (.int 2))) mNil)) ⟨[.dat (enc (.node l k r))], gs⟩ = .ok (.dat (tx r.wr)) ⟨[.dat (enc (.node l k r))], gs⟩ := fmt_tx (by simp [atI, ixN, hr]) (by omega)
      have cc : ∀ c : PyData, mC c ⟨[.dat (enc (.node l k r))], gs⟩ = .ok (.dat c) ⟨[.dat (enc (.node l k r))], gs⟩ := fun c => rfl
      have e : mFStr [mC (.str "("), mFmt (mOp2 ixD (mVar 0) (mC (.int 0))), mC (.str " "), mFmt (mFn 1 (f_written n) (mCons (mOp2 ixD (mVar 0) (mC (.int 1))) (mNil))), mC (.str " "), mFmt (mFn 1 (f_written n) (mCons (mOp2 ixD (mVar 0) (mC (.int 2))) (mNil))), mC (.str ")")] ⟨[.dat (enc (.node l k r))], gs⟩
          = .ok (.dat (tx (Tr.node l k r).wr)) ⟨[.dat (enc (.node l k r))], gs⟩ := by
        rw [c_lp, c_sp, c_rp]
        show mJs _ ⟨([] : List Nat).toArray⟩ _ = _
        rw [js_tx (cc _) (by simp; omega), js_tx e1 (by simp; omega), js_tx (cc _) (by simp; omega), js_tx e2 (by simp; omega), js_tx (cc _) (by simp; omega), js_tx e3 (by simp; omega), js_tx (cc _) (by simp; omega), js_end]
        simp [Tr.wr]
      simp only [enc] at e
      rw [f_written]
      simp [m_written, -mFStr, e]
theorem law_written_ok (t : Tr) : ∀ (n : Nat) (gs : List GO), t.height < n → t.Ks → t.wr.length ≤ 1000 → f_law_written n [.dat (enc t)] gs = .ok (.dat (tx t.wr)) gs := by
  induction t with
  | nil =>
    intro n gs h _ _
    cases n with
    | zero => omega
    | succ n => simp [f_law_written, m_law_written, Tr.wr, c_dot]
  | node l k r ihl ihr =>
    intro n gs h hk hw
    cases n with
    | zero => omega
    | succ n =>
      simp only [Tr.height] at h
      obtain ⟨k1, k2, k3⟩ := Tr.ks_node.mp hk
      have h3 := decL_len k.toNat
      have hw0 := hw
      simp only [Tr.wr, List.length_cons, List.length_append, List.length_nil] at hw
      have hl := ihl n gs (by omega) k1 (by omega)
      have hr := ihr n gs (by omega) k3 (by omega)
      have hm : (1000 : Nat) ≤ maxLen := by decide
      have hs : strD [.int k] = some (tx (decL k.toNat)) := by
        have := str_tx (n := k.toNat) (by omega)
        rwa [Int.toNat_of_nonneg k2.1] at this
      have ej : mJoinC " " (mVar 1) ⟨[.dat (enc (.node l k r)), .own [tx (decL k.toNat), tx l.wr, tx r.wr]], gs⟩ = .ok (.dat (tx (joinL 32 [decL k.toNat, l.wr, r.wr]))) ⟨[.dat (enc (.node l k r)), .own [tx (decL k.toNat), tx l.wr, tx r.wr]], gs⟩ :=
        join_tx (rv := .bor 1) (ls := [decL k.toNat, l.wr, r.wr]) (by simp) (by rfl) (by simp; omega)
      have a1 : addD (tx [40]) (tx (joinL 32 [decL k.toNat, l.wr, r.wr])) = some (tx (40 :: joinL 32 [decL k.toNat, l.wr, r.wr])) := add_tx (by simp [joinL]; omega)
      have a2 : addD (tx (40 :: joinL 32 [decL k.toNat, l.wr, r.wr])) (tx [41]) = some (tx (Tr.node l k r).wr) := by
        rw [add_tx (by simp [joinL]; omega)]
        simp [joinL, Tr.wr]
      simp only [enc] at ej
      rw [f_law_written]
      simp [m_law_written, atI, ixN, hl, hr, -strD, hs, -addD, -mJoinC, ej, c_lp, c_rp, a1, a2]
end Tx
namespace JL
open PySem L2
/-- figures ahead, up to n -/
def cnt : Nat → List Nat → Nat
  | 0, _ => 0
  | _ + 1, [] => 0
  | n + 1, c :: s => if dig c = true then cnt n s + 1 else 0
theorem cnt_le : ∀ n s, cnt n s ≤ n ∧ cnt n s ≤ s.length
  | 0, _ => by simp [cnt]
  | _ + 1, [] => by simp [cnt]
  | n + 1, c :: s => by
    have := cnt_le n s
    rw [cnt]
    split
    · simp only [List.length_cons]; omega
    · simp
theorem cnt_num : ∀ s : List Nat, cnt 3 s = 0 ∨ ∃ k, numL (s.take (cnt 3 s)) = some k ∧ k < 1000
  | [] => .inl rfl
  | [a] => by
    by_cases ha : dig a = true
    · refine .inr ⟨a - 48, ?_, ?_⟩
      · simp [cnt, ha, numL]
      · have := dig_iff ha; omega
    · exact .inl (by simp [cnt, ha])
  | [a, b] => by
    by_cases ha : dig a = true
    · have h1 := dig_iff ha
      by_cases hb : dig b = true
      · have h2 := dig_iff hb
        exact .inr ⟨10 * (a - 48) + (b - 48), by simp [cnt, ha, hb, numL], by omega⟩
      · exact .inr ⟨a - 48, by simp [cnt, ha, hb, numL], by omega⟩
    · exact .inl (by simp [cnt, ha])
  | a :: b :: c :: r => by
    by_cases ha : dig a = true
    · have h1 := dig_iff ha
      by_cases hb : dig b = true
      · have h2 := dig_iff hb
        by_cases hc : dig c = true
        · have h3 := dig_iff hc
          exact .inr ⟨100 * (a - 48) + 10 * (b - 48) + (c - 48), by simp [cnt, ha, hb, hc, numL], by omega⟩
        · exact .inr ⟨10 * (a - 48) + (b - 48), by simp [cnt, ha, hb, hc, numL], by omega⟩
      · exact .inr ⟨a - 48, by simp [cnt, ha, hb, numL], by omega⟩
    · exact .inl (by simp [cnt, ha])
/-- the number ahead, and how many signs it takes -/
def rnum (s : List Nat) : Option (Nat × Nat) :=
  if cnt 3 s = 0 then none else (numL (s.take (cnt 3 s))).bind fun k => if decL k = s.take (cnt 3 s) ∧ k ≤ 99 then some (k, cnt 3 s) else none
theorem rnum_sound {s : List Nat} {k d : Nat} (h : rnum s = some (k, d)) : s = decL k ++ s.drop d ∧ k ≤ 99 ∧ d ≤ s.length ∧ d ≤ 3 := by
  unfold rnum at h
  split at h
  · cases h
  · cases e : numL (s.take (cnt 3 s)) with
    | none => rw [e] at h; cases h
    | some q =>
      rw [e] at h
      simp only [Option.bind_some] at h
      split at h
      · rename_i hc
        simp only [Option.some.injEq, Prod.mk.injEq] at h
        obtain ⟨rfl, rfl⟩ := h
        have := cnt_le 3 s
        exact ⟨by rw [hc.1, List.take_append_drop], hc.2, this.2, this.1⟩
      · cases h
/-- no figure ahead -/
def NoDig : List Nat → Prop
  | [] => True
  | c :: _ => dig c = false
theorem dig_fig {a : Nat} (h : a < 10) : dig (48 + a) = true := by
  unfold dig
  rw [Nat.ble_eq_true_of_le (by omega), Nat.ble_eq_true_of_le (by omega)]
  rfl
theorem rnum_dec {k : Nat} (h : k ≤ 99) {r : List Nat} (hr : NoDig r) : rnum (decL k ++ r) = some (k, (decL k).length) := by
  have hd : ∀ n, cnt n r = 0 := by
    intro n
    cases n with
    | zero => rfl
    | succ n =>
      cases r with
      | nil => rfl
      | cons c r => 
        have : dig c = false := hr
        simp [cnt, this]
  by_cases h1 : k < 10
  · have e : decL k = [48 + k] := by unfold decL; rw [if_pos h1]
    have ec : cnt 3 (decL k ++ r) = 1 := by
      rw [e]
      simp [cnt, dig_fig h1, hd]
    unfold rnum
    rw [ec]
    have et : (decL k ++ r).take 1 = decL k := by rw [e]; simp
    rw [et]
    have en : numL (decL k) = some k := by rw [e]; simp [numL, dig_fig h1]
    rw [en]
    simp [h, e]
  · have e : decL k = [48 + k / 10, 48 + k % 10] := by unfold decL; rw [if_neg h1, if_pos (by omega)]
    have a1 := dig_fig (a := k / 10) (by omega)
    have a2 := dig_fig (a := k % 10) (by omega)
    have ec : cnt 3 (decL k ++ r) = 2 := by
      rw [e]
      simp [cnt, a1, a2, hd]
    unfold rnum
    rw [ec]
    have et : (decL k ++ r).take 2 = decL k := by rw [e]; simp
    rw [et]
    have en : numL (decL k) = some k := by
      rw [e]
      simp only [numL, a1, a2, and_self, if_true]
      congr 1
      omega
    rw [en]
    simp [h, e]
end JL
namespace Tx
open PySem JL L2
theorem while_go {mt : M Bool} {mb : M Flw} {n : Nat} {st st1 : ST} (ht : mt st = .ok true st) (hb : mb st = .ok .nx st1) : mWhile mt mb (n + 1) st = mWhile mt mb n st1 := by simp [mWhile, ht, hb]
theorem while_end {mt : M Bool} {mb : M Flw} {n : Nat} {st : ST} (ht : mt st = .ok false st) : mWhile mt mb (n + 1) st = .ok .nx st := by simp [mWhile, ht]
theorem num_loop (l : List Nat) (hl : l.length ≤ 1000) (p : Nat) (gs : List GO) : ∀ (n e f : Nat) (s : List Nat), l.drop e = s → e + n = p + 3 → n < f →
    mWhile t_read_number_0 b_read_number_1 f ⟨[.dat (tx l), .dat (.int (p : Int)), .dat (.int (e : Int))], gs⟩ = .ok .nx ⟨[.dat (tx l), .dat (.int (p : Int)), .dat (.int ((e + cnt n s : Nat) : Int))], gs⟩ := by
  have hm : l.length ≤ maxLen := Nat.le_trans hl (by decide)
  have hlen := len_tx hm
  intro n
  induction n with
  | zero =>
    intro e f s hs hn hf
    obtain ⟨f, rfl⟩ : ∃ g, f = g + 1 := ⟨f - 1, by omega⟩
    refine while_end ?_
    have h3 : ¬ (e : Int) < (p : Int) + 3 := by omega
    by_cases h1 : e < l.length
    · have h2 : (e : Int) < (l.length : Int) := by omega
      have hx := ix_tx hm (List.getElem?_eq_getElem h1)
      have hi := in_tx l[e]
      cases hd : dig l[e] with
      | true => rw [hd] at hi; simp [-lenD, -ixSD, -inSD, hlen, hx, hi, h2, h3]
      | false => rw [hd] at hi; simp [-lenD, -ixSD, -inSD, hlen, hx, hi, h2]
    · have h2 : ¬ (e : Int) < (l.length : Int) := by omega
      simp [-lenD, -ixSD, -inSD, hlen, h2]
  | succ n ih =>
    intro e f s hs hn hf
    obtain ⟨f, rfl⟩ : ∃ g, f = g + 1 := ⟨f - 1, by omega⟩
    have h3 : (e : Int) < (p : Int) + 3 := by omega
    by_cases h1 : e < l.length
    · have h2 : (e : Int) < (l.length : Int) := by omega
      have hx := ix_tx hm (List.getElem?_eq_getElem h1)
      have hi := in_tx l[e]
      have hsc : s = l[e] :: l.drop (e + 1) := by rw [← hs]; exact List.drop_eq_getElem_cons h1
      cases hd : dig l[e] with
      | true =>
        rw [hd] at hi
        rw [while_go (st1 := ⟨[.dat (tx l), .dat (.int (p : Int)), .dat (.int ((e + 1 : Nat) : Int))], gs⟩) (by simp [-lenD, -ixSD, -inSD, hlen, hx, hi, h2, h3]) (by simp), ih (e + 1) f _ rfl (by omega) (by omega), hsc]
        simp only [cnt, hd, if_true]
        rw [show e + 1 + cnt n (l.drop (e + 1)) = e + (cnt n (l.drop (e + 1)) + 1) by omega]
      | false =>
        rw [hd] at hi
        rw [while_end (by simp [-lenD, -ixSD, -inSD, hlen, hx, hi, h2]), hsc]
        simp [cnt, hd]
    · have h2 : ¬ (e : Int) < (l.length : Int) := by omega
      have : s = [] := by rw [← hs]; exact List.drop_eq_nil_of_le (by omega)
      rw [while_end (by simp [-lenD, -ixSD, -inSD, hlen, h2]), this]
      simp [cnt]
theorem read_number_ok (l : List Nat) (hl : l.length ≤ 1000) (ho : Okl l) (p : Nat) (gs : List GO) : F_read_number [.dat (tx l), .dat (.int (p : Int))] gs = match rnum (l.drop p) with
    | some (k, d) => .ok (.dat (.tuple [.int (k : Int), .int ((p + d : Nat) : Int)])) gs
    | none => .exc 6 gs := by
  have hm : l.length ≤ maxLen := Nat.le_trans hl (by decide)
  have hw := num_loop l hl p gs 3 p 1000 (l.drop p) rfl rfl (by decide)
  have hsl := slice_tx hm p (p + cnt 3 (l.drop p))
  rw [Nat.add_sub_cancel_left] at hsl
  unfold rnum
  by_cases h0 : cnt 3 (l.drop p) = 0
  · rw [if_pos h0]
    rw [h0] at hw
    simp [F_read_number, m_read_number, -mWhile, hw]
  · rw [if_neg h0]
    obtain h | ⟨k, hk, hk2⟩ := cnt_num (l.drop p)
    · exact absurd h h0
    · rw [hk]
      have hi := int_tx hk
      have hst := str_tx hk2
      have hne : ¬ ((p + cnt 3 (l.drop p) : Nat) : Int) = (p : Int) := by omega
      have o1 : SeqAt.shaped (tx (decL k)) = true := shaped_tx (by unfold decL; intro c hc; split at hc; (· simp at hc; omega); split at hc <;> (simp at hc; omega))
      have o2 : SeqAt.shaped (tx ((l.drop p).take (cnt 3 (l.drop p)))) = true := shaped_tx fun c hc => ho c (List.mem_of_mem_drop (List.mem_of_mem_take hc))
      generalize hT : (l.drop p).take (cnt 3 (l.drop p)) = T at *
      generalize hE : p + cnt 3 (l.drop p) = E at *
      have hq := eqv_tx (decL k) T
      simp only [Option.bind_some]
      by_cases c1 : decL k = T
      · rw [decide_eq_true c1] at hq
        by_cases c2 : k ≤ 99
        · have c3 : ¬ (99 : Int) < (k : Int) := by omega
          rw [if_pos ⟨c1, c2⟩]
          simp [F_read_number, m_read_number, -mWhile, -strD, -intD, -sliceD, hw, hsl, hi, hst, o1, o2, hq, c3, hne]
          omega
        · have c3 : (99 : Int) < (k : Int) := by omega
          rw [if_neg (fun z => c2 z.2)]
          simp [F_read_number, m_read_number, -mWhile, -strD, -intD, -sliceD, hw, hsl, hi, hst, o1, o2, hq, c3, hne]
      · rw [decide_eq_false c1] at hq
        rw [if_neg (fun z => c1 z.1)]
        simp [F_read_number, m_read_number, -mWhile, -strD, -intD, -sliceD, hw, hsl, hi, hst, o1, o2, hq, hne]
theorem expect_ok (l : List Nat) (hl : l.length ≤ 1000) (ho : Okl l) (p c : Nat) (hc : c < 1114112) (gs : List GO) : F_expect [.dat (tx l), .dat (.int (p : Int)), .dat (tx [c])] gs = if (l.drop p).take 1 = [c] then .ok (.dat (.int ((p + 1 : Nat) : Int))) gs else .exc 6 gs := by
  have hm : l.length ≤ maxLen := Nat.le_trans hl (by decide)
  have hsl := slice_tx hm p (p + 1)
  rw [Nat.add_sub_cancel_left] at hsl
  have o1 : SeqAt.shaped (tx [c]) = true := shaped_tx (by intro d hd; simp at hd; omega)
  have o2 : SeqAt.shaped (tx ((l.drop p).take 1)) = true := shaped_tx fun c hc => ho c (List.mem_of_mem_drop (List.mem_of_mem_take hc))
  generalize hT : (l.drop p).take 1 = T at *
  have hq := eqv_tx T [c]
  have e1 : ((p + 1 : Nat) : Int) = (p : Int) + 1 := by omega
  rw [e1] at hsl ⊢
  by_cases c1 : T = [c]
  · rw [decide_eq_true c1] at hq
    rw [if_pos c1]
    simp [F_expect, m_expect, -sliceD, hsl, o1, o2, hq]
  · rw [decide_eq_false c1] at hq
    rw [if_neg c1]
    simp [F_expect, m_expect, -sliceD, hsl, o1, o2, hq]
end Tx
namespace JL
open PySem L2
theorem take_one {l : List Nat} {p c : Nat} (h : (l.drop p).take 1 = [c]) : l.drop p = c :: l.drop (p + 1) := by
  have e := List.take_append_drop 1 (l.drop p)
  rw [h, List.drop_drop] at e
  exact e.symm
theorem drop_app {l a b : List Nat} {p q : Nat} (h : l.drop p = a ++ b) (hq : q = p + a.length) : l.drop q = b := by
  rw [hq, ← List.drop_drop, h, List.drop_left]
theorem drop_one {l b : List Nat} {p q c : Nat} (h : l.drop p = c :: b) (hq : q = p + 1) : l.drop q = b := drop_app (a := [c]) h hq
theorem one_take {l b : List Nat} {p c : Nat} (h : l.drop p = c :: b) : (l.drop p).take 1 = [c] := by rw [h]; simp
end JL
namespace Tx
open PySem JL L2
theorem expect_yes {l : List Nat} (hl : l.length ≤ 1000) (ho : Okl l) {p c q : Nat} (hc : c < 1114112) (h : (l.drop p).take 1 = [c]) (hq : q = p + 1) (gs : List GO) : F_expect [.dat (tx l), .dat (.int (p : Int)), .dat (tx [c])] gs = .ok (.dat (.int (q : Int))) gs := by
  rw [expect_ok l hl ho p c hc gs, if_pos h, hq]
theorem expect_no {l : List Nat} (hl : l.length ≤ 1000) (ho : Okl l) {p c : Nat} (hc : c < 1114112) (h : ¬ (l.drop p).take 1 = [c]) (gs : List GO) : F_expect [.dat (tx l), .dat (.int (p : Int)), .dat (tx [c])] gs = .exc 6 gs := by
  rw [expect_ok l hl ho p c hc gs, if_neg h]
theorem number_yes {l : List Nat} (hl : l.length ≤ 1000) (ho : Okl l) {p k d q : Nat} (h : rnum (l.drop p) = some (k, d)) (hq : q = p + d) (gs : List GO) : F_read_number [.dat (tx l), .dat (.int (p : Int))] gs = .ok (.dat (.tuple [.int (k : Int), .int (q : Int)])) gs := by
  rw [read_number_ok l hl ho p gs, h, hq]
theorem number_no {l : List Nat} (hl : l.length ≤ 1000) (ho : Okl l) {p : Nat} (h : rnum (l.drop p) = none) (gs : List GO) : F_read_number [.dat (tx l), .dat (.int (p : Int))] gs = .exc 6 gs := by
  rw [read_number_ok l hl ho p gs, h]
section
variable {l : List Nat} (hl : l.length ≤ 1000) (ho : Okl l)
include hl ho
theorem dot_test (p : Nat) : sliceD (tx l) (some (p : Int)) (some ((p : Int) + 1)) = some (tx ((l.drop p).take 1)) ∧ SeqAt.shaped (tx ((l.drop p).take 1)) = true ∧ SeqAt.shaped (tx [46]) = true := by
  have hm : l.length ≤ maxLen := Nat.le_trans hl (by decide)
  have hsl := slice_tx hm p (p + 1)
  rw [Nat.add_sub_cancel_left] at hsl
  exact ⟨hsl, shaped_tx fun c hc => ho c (List.mem_of_mem_drop (List.mem_of_mem_take hc)), shaped_tx (by intro d hd; simp at hd; omega)⟩
theorem read_dot {n p q : Nat} {d : Int} (h : (l.drop p).take 1 = [46]) (hq : q = p + 1) (gs : List GO) : f_read_tree (n + 1) [.dat (tx l), .dat (.int (p : Int)), .dat (.int d)] gs = .ok (.dat (.tuple [enc .nil, .int (q : Int)])) gs := by
  obtain ⟨s1, s2, s3⟩ := dot_test hl ho p
  have hq' := eqv_tx ((l.drop p).take 1) [46]
  rw [decide_eq_true h] at hq'
  rw [h] at s1 s2 hq'
  have : (q : Int) = (p : Int) + 1 := by omega
  simp [f_read_tree, m_read_tree, -sliceD, s1, s2, s3, c_dot, hq', this]
theorem read_sound : ∀ (f n : Nat) (d : Int) (p : Nat) (gs : List GO), (f : Int) + d = 10 → f < n →
    f_read_tree n [.dat (tx l), .dat (.int (p : Int)), .dat (.int d)] gs = .exc 6 gs ∨ ∃ (t : Tr) (e : Nat), f_read_tree n [.dat (tx l), .dat (.int (p : Int)), .dat (.int d)] gs = .ok (.dat (.tuple [enc t, .int (e : Int)])) gs ∧ l.drop p = t.wr ++ l.drop e ∧ t.Ks ∧ t.height ≤ f := by
  intro f
  induction f with
  | zero =>
    intro n d p gs hd hn
    obtain ⟨n, rfl⟩ : ∃ m, n = m + 1 := ⟨n - 1, by omega⟩
    obtain ⟨s1, s2, s3⟩ := dot_test hl ho p
    have hq := eqv_tx ((l.drop p).take 1) [46]
    by_cases c0 : (l.drop p).take 1 = [46]
    · exact .inr ⟨.nil, p + 1, read_dot hl ho c0 rfl gs, take_one c0, fun x hx => absurd hx (by simp [Tr.keys]), Nat.le_refl _⟩
    · rw [decide_eq_false c0] at hq
      have h9 : 9 < d := by omega
      exact .inl (by simp [f_read_tree, m_read_tree, -sliceD, s1, s2, s3, c_dot, hq, h9])
  | succ f ih =>
    intro n d p gs hd hn
    obtain ⟨n, rfl⟩ : ∃ m, n = m + 1 := ⟨n - 1, by omega⟩
    obtain ⟨s1, s2, s3⟩ := dot_test hl ho p
    have hq := eqv_tx ((l.drop p).take 1) [46]
    by_cases c0 : (l.drop p).take 1 = [46]
    · exact .inr ⟨.nil, p + 1, read_dot hl ho c0 rfl gs, take_one c0, fun x hx => absurd hx (by simp [Tr.keys]), Nat.zero_le _⟩
    · rw [decide_eq_false c0] at hq
      generalize (l.drop p).take 1 = T at s1 s2 hq
      have h9 : ¬ 9 < d := by omega
      by_cases c1 : (l.drop p).take 1 = [40]
      · obtain ⟨p1, hp1⟩ : ∃ q, q = p + 1 := ⟨_, rfl⟩
        have E1 := expect_yes hl ho (c := 40) (by decide) c1 hp1 gs
        have F1 := take_one c1
        rw [← hp1] at F1
        cases r1 : rnum (l.drop p1) with
        | none =>
          have E2 := number_no hl ho r1 gs
          exact .inl (by simp [f_read_tree, m_read_tree, -sliceD, s1, s2, s3, c_dot, c_lp, c_sp, c_rp, hq, h9, E1, E2])
        | some kd =>
          obtain ⟨k, dd⟩ := kd
          obtain ⟨p2, hp2⟩ : ∃ q, q = p1 + dd := ⟨_, rfl⟩
          have E2 := number_yes hl ho r1 hp2 gs
          obtain ⟨F2, k99, _, _⟩ := rnum_sound r1
          rw [List.drop_drop, ← hp2] at F2
          by_cases c2 : (l.drop p2).take 1 = [32]
          · obtain ⟨p3, hp3⟩ : ∃ q, q = p2 + 1 := ⟨_, rfl⟩
            have E3 := expect_yes hl ho (c := 32) (by decide) c2 hp3 gs
            have F3 := take_one c2
            rw [← hp3] at F3
            rcases ih n (d + 1) p3 gs (by omega) (by omega) with E4 | ⟨t1, p4, E4, F4, K4, H4⟩
            · exact .inl (by simp [f_read_tree, m_read_tree, -sliceD, s1, s2, s3, c_dot, c_lp, c_sp, c_rp, hq, h9, E1, E2, E3, E4])
            · by_cases c3 : (l.drop p4).take 1 = [32]
              · obtain ⟨p5, hp5⟩ : ∃ q, q = p4 + 1 := ⟨_, rfl⟩
                have E5 := expect_yes hl ho (c := 32) (by decide) c3 hp5 gs
                have F5 := take_one c3
                rw [← hp5] at F5
                rcases ih n (d + 1) p5 gs (by omega) (by omega) with E6 | ⟨t2, p6, E6, F6, K6, H6⟩
                · exact .inl (by simp [f_read_tree, m_read_tree, -sliceD, s1, s2, s3, c_dot, c_lp, c_sp, c_rp, hq, h9, E1, E2, E3, E4, E5, E6])
                · by_cases c4 : (l.drop p6).take 1 = [41]
                  · obtain ⟨p7, hp7⟩ : ∃ q, q = p6 + 1 := ⟨_, rfl⟩
                    have E7 := expect_yes hl ho (c := 41) (by decide) c4 hp7 gs
                    have F7 := take_one c4
                    rw [← hp7] at F7
                    refine .inr ⟨.node t1 (k : Int) t2, p7, by simp [f_read_tree, m_read_tree, -sliceD, s1, s2, s3, c_dot, c_lp, c_sp, c_rp, hq, h9, E1, E2, E3, E4, E5, E6, E7], ?_, Tr.ks_node.mpr ⟨K4, by omega, K6⟩, ?_⟩
                    · rw [F1, F2, F3, F4, F5, F6, F7]
                      simp [Tr.wr]
                    · simp only [Tr.height]
                      omega
                  · have E7 := expect_no hl ho (c := 41) (by decide) c4 gs
                    exact .inl (by simp [f_read_tree, m_read_tree, -sliceD, s1, s2, s3, c_dot, c_lp, c_sp, c_rp, hq, h9, E1, E2, E3, E4, E5, E6, E7])
              · have E5 := expect_no hl ho (c := 32) (by decide) c3 gs
                exact .inl (by simp [f_read_tree, m_read_tree, -sliceD, s1, s2, s3, c_dot, c_lp, c_sp, c_rp, hq, h9, E1, E2, E3, E4, E5])
          · have E3 := expect_no hl ho (c := 32) (by decide) c2 gs
            exact .inl (by simp [f_read_tree, m_read_tree, -sliceD, s1, s2, s3, c_dot, c_lp, c_sp, c_rp, hq, h9, E1, E2, E3])
      · have E1 := expect_no hl ho (c := 40) (by decide) c1 gs
        exact .inl (by simp [f_read_tree, m_read_tree, -sliceD, s1, s2, s3, c_dot, c_lp, c_sp, c_rp, hq, h9, E1])
theorem read_full (t : Tr) : ∀ (n : Nat) (d : Int) (p q : Nat) (gs : List GO) (r : List Nat), t.Ks → (t.height : Int) + d ≤ 10 → t.height < n → l.drop p = t.wr ++ r → q = p + t.wr.length →
    f_read_tree n [.dat (tx l), .dat (.int (p : Int)), .dat (.int d)] gs = .ok (.dat (.tuple [enc t, .int (q : Int)])) gs := by
  induction t with
  | nil =>
    intro n d p q gs r _ hd hn hp hq
    obtain ⟨n, rfl⟩ : ∃ m, n = m + 1 := ⟨n - 1, by omega⟩
    exact read_dot hl ho (one_take (b := r) hp) hq gs
  | node a k b iha ihb =>
    intro n d p q gs r hk hd hn hp hq
    obtain ⟨n, rfl⟩ : ∃ m, n = m + 1 := ⟨n - 1, by omega⟩
    simp only [Tr.height] at hd hn
    obtain ⟨k1, k2, k3⟩ := Tr.ks_node.mp hk
    have hp0 : l.drop p = 40 :: (decL k.toNat ++ 32 :: (a.wr ++ 32 :: (b.wr ++ 41 :: r))) := by rw [hp]; simp [Tr.wr]
    obtain ⟨s1, s2, s3⟩ := dot_test hl ho p
    have ho1 := one_take hp0
    rw [ho1] at s1 s2
    have hq46 : PyData.eqv (tx [40]) (tx [46]) = false := by rw [eqv_tx]; rfl
    have h9 : ¬ 9 < d := by omega
    obtain ⟨p1, hp1⟩ : ∃ q, q = p + 1 := ⟨_, rfl⟩
    have E1 := expect_yes hl ho (c := 40) (by decide) ho1 hp1 gs
    have G1 := drop_one hp0 hp1
    obtain ⟨p2, hp2⟩ : ∃ q, q = p1 + (decL k.toNat).length := ⟨_, rfl⟩
    have R1 : rnum (l.drop p1) = some (k.toNat, (decL k.toNat).length) := by
      rw [G1]
      exact rnum_dec (by omega) (by show dig 32 = false; rfl)
    have E2 := number_yes hl ho R1 hp2 gs
    rw [Int.toNat_of_nonneg k2.1] at E2
    have G2 := drop_app G1 hp2
    obtain ⟨p3, hp3⟩ : ∃ q, q = p2 + 1 := ⟨_, rfl⟩
    have E3 := expect_yes hl ho (c := 32) (by decide) (one_take G2) hp3 gs
    have G3 := drop_one G2 hp3
    obtain ⟨p4, hp4⟩ : ∃ q, q = p3 + a.wr.length := ⟨_, rfl⟩
    have E4 := iha n (d + 1) p3 p4 gs _ k1 (by omega) (by omega) G3 hp4
    have G4 := drop_app G3 hp4
    obtain ⟨p5, hp5⟩ : ∃ q, q = p4 + 1 := ⟨_, rfl⟩
    have E5 := expect_yes hl ho (c := 32) (by decide) (one_take G4) hp5 gs
    have G5 := drop_one G4 hp5
    obtain ⟨p6, hp6⟩ : ∃ q, q = p5 + b.wr.length := ⟨_, rfl⟩
    have E6 := ihb n (d + 1) p5 p6 gs _ k3 (by omega) (by omega) G5 hp6
    have G6 := drop_app G5 hp6
    have E7 := expect_yes hl ho (c := 41) (q := q) (by decide) (one_take G6) (by
      simp only [Tr.wr, List.length_cons, List.length_append, List.length_nil] at hq
      omega) gs
    simp [f_read_tree, m_read_tree, -sliceD, s1, s2, s3, c_dot, c_lp, c_sp, c_rp, hq46, h9, E1, E2, E3, E4, E5, E6, E7]
end
end Tx
namespace JL
open PySem L2
theorem isi_str_tx (l : List Nat) : isiD "str" (tx l) = some (.bool true) := rfl
theorem decL_inj {a b : Nat} (ha : a ≤ 99) (hb : b ≤ 99) (h : decL a = decL b) : a = b := by
  have h1 := rnum_dec ha (r := []) trivial
  have h2 := rnum_dec hb (r := []) trivial
  rw [h, h2] at h1
  simp only [Option.some.injEq, Prod.mk.injEq] at h1
  exact h1.1.symm
theorem decs_inj : ∀ {a b : List Nat}, (∀ k ∈ a, k ≤ 99) → (∀ k ∈ b, k ≤ 99) → a.map decL = b.map decL → a = b
  | [], [], _, _, _ => rfl
  | [], _ :: _, _, _, h => by simp at h
  | _ :: _, [], _, _, h => by simp at h
  | x :: a, y :: b, ha, hb, h => by
    simp only [List.map_cons, List.cons.injEq] at h
    rw [decL_inj (ha x (by simp)) (hb y (by simp)) h.1, decs_inj (fun k z => ha k (List.mem_cons_of_mem _ z)) (fun k z => hb k (List.mem_cons_of_mem _ z)) h.2]
theorem dec_nosp (k : Nat) : (32 : Nat) ∉ decL k := by
  unfold decL
  intro h
  split at h
  · simp at h; omega
  · split at h <;> (simp at h; omega)
theorem splitL_mem (c : Nat) : ∀ (xs : List Nat), ∀ w ∈ splitL c xs, w.length ≤ xs.length ∧ ∀ z ∈ w, z ∈ xs
  | [], w, h => by
    simp only [splitL, List.mem_singleton] at h
    subst h
    simp
  | x :: r, w, h => by
    rw [splitL] at h
    have ih := splitL_mem c r
    split at h
    · rcases List.mem_cons.mp h with rfl | h
      · simp
      · obtain ⟨h1, h2⟩ := ih w h
        exact ⟨by rw [List.length_cons]; omega, fun z hz => List.mem_cons_of_mem _ (h2 z hz)⟩
    · split at h
      · rename_i e
        exact absurd e (splitL_ne c r)
      · rename_i p q e
        rcases List.mem_cons.mp h with rfl | h
        · obtain ⟨h1, h2⟩ := ih p (by rw [e]; exact List.mem_cons_self)
          refine ⟨by simp only [List.length_cons]; omega, fun z hz => ?_⟩
          rcases List.mem_cons.mp hz with rfl | hz
          · exact List.mem_cons_self
          · exact List.mem_cons_of_mem _ (h2 z hz)
        · obtain ⟨h1, h2⟩ := ih w (by rw [e]; exact List.mem_cons_of_mem _ h)
          exact ⟨by rw [List.length_cons]; omega, fun z hz => List.mem_cons_of_mem _ (h2 z hz)⟩
end JL
namespace Tx
open PySem JL L2
theorem is_part_any (t : Tr) : ∀ (n : Nat) (lo hi room : Int) (gs : List GO), t.height < n →
    f_is_part n [.dat (enc t), .dat (.int lo), .dat (.int hi), .dat (.int room)] gs = .ok (.dat .none) gs ∨ ∃ k : Int, f_is_part n [.dat (enc t), .dat (.int lo), .dat (.int hi), .dat (.int room)] gs = .ok (.dat (.int k)) gs := by
  induction t with
  | nil =>
    intro n lo hi room gs h
    cases n with
    | zero => omega
    | succ n => exact .inr ⟨0, by simp [f_is_part, m_is_part]⟩
  | node l k r ihl ihr =>
    intro n lo hi room gs h
    cases n with
    | zero => omega
    | succ n =>
      simp only [Tr.height] at h
      by_cases h0 : room = 0
      · exact .inl (by simp [f_is_part, m_is_part, h0])
      · by_cases h1 : 0 ≤ k
        · by_cases h2 : k ≤ 99
          · by_cases h3 : lo < k
            · by_cases h4 : k < hi
              · rcases ihl n lo k (room - 1) gs (by omega) with e1 | ⟨a, e1⟩
                · exact .inl (by simp [f_is_part, m_is_part, h0, is_key_int, h1, h2, h3, h4, atI, ixN, e1])
                · rcases ihr n k hi (room - 1 - a) gs (by omega) with e2 | ⟨b, e2⟩
                  · exact .inl (by simp [f_is_part, m_is_part, h0, is_key_int, h1, h2, h3, h4, atI, ixN, e1, e2])
                  · exact .inr ⟨a + 1 + b, by simp [f_is_part, m_is_part, h0, is_key_int, h1, h2, h3, h4, atI, ixN, e1, e2]⟩
              · exact .inl (by simp [f_is_part, m_is_part, h0, is_key_int, h1, h2, h3, h4, atI, ixN])
            · exact .inl (by simp [f_is_part, m_is_part, h0, is_key_int, h1, h2, h3, atI, ixN])
          · exact .inl (by simp [f_is_part, m_is_part, h0, is_key_int, h1, h2, atI, ixN])
        · exact .inl (by simp [f_is_part, m_is_part, h0, is_key_int, h1, atI, ixN])
theorem is_tree_any {t : Tr} (h : t.height ≤ 10) (gs : List GO) : ∃ b, F_is_tree [.dat (enc t)] gs = .ok (.dat (.bool b)) gs := by
  rcases is_part_any t 15 (-1) 100 9 gs (by omega) with e | ⟨k, e⟩
  · exact ⟨false, by simp [F_is_tree, m_is_tree, F_is_part, e]⟩
  · exact ⟨true, by simp [F_is_tree, m_is_tree, F_is_part, e]⟩
theorem parse_tree_sound {l : List Nat} (hl : l.length ≤ 1000) (ho : Okl l) (gs : List GO) : F_parse_tree [.dat (tx l)] gs = .exc 6 gs ∨ ∃ t : Tr, F_parse_tree [.dat (tx l)] gs = .ok (.dat (enc t)) gs ∧ l = t.wr ∧ t.Ks ∧ t.height ≤ 10 := by
  have hm : l.length ≤ maxLen := Nat.le_trans hl (by decide)
  have hlen := len_tx hm
  rcases read_sound hl ho 10 15 0 0 gs (by decide) (by decide) with e | ⟨t, q, e, h1, h2, h3⟩
  · exact .inl (by
      simp only [Int.ofNat_zero, Int.natCast_zero] at e
      simp [F_parse_tree, m_parse_tree, -isiD, isi_str_tx, F_read_tree, e])
  · rw [List.drop_zero] at h1
    simp only [Int.ofNat_zero, Int.natCast_zero] at e
    by_cases c : q = l.length
    · obtain ⟨b, hb⟩ := is_tree_any h3 gs
      have hc : (q : Int) = (l.length : Int) := by omega
      cases b with
      | true =>
        refine .inr ⟨t, by simp [F_parse_tree, m_parse_tree, -isiD, -lenD, isi_str_tx, F_read_tree, e, hlen, hc, hb], ?_, h2, h3⟩
        rw [c, List.drop_length, List.append_nil] at h1
        exact h1
      | false => exact .inl (by simp [F_parse_tree, m_parse_tree, -isiD, -lenD, isi_str_tx, F_read_tree, e, hlen, hc, hb])
    · have hc : ¬ (q : Int) = (l.length : Int) := by omega
      exact .inl (by simp [F_parse_tree, m_parse_tree, -isiD, -lenD, isi_str_tx, F_read_tree, e, hlen, hc])
theorem parse_tree_full {t : Tr} (h : t.Ok) (ho : Okl t.wr) (gs : List GO) : F_parse_tree [.dat (tx t.wr)] gs = .ok (.dat (enc t)) gs := by
  have hw := t.wr_len
  have hf := h.few
  have hh := t.height_le
  have hl : t.wr.length ≤ 1000 := by omega
  have hm : t.wr.length ≤ maxLen := Nat.le_trans hl (by decide)
  have hlen := len_tx hm
  have e := read_full hl ho t 15 0 0 t.wr.length gs [] h.rng (by omega) (by omega) (by simp) (by omega)
  simp only [Int.ofNat_zero, Int.natCast_zero] at e
  simp [F_parse_tree, m_parse_tree, -isiD, -lenD, isi_str_tx, F_read_tree, e, hlen, is_tree_ok h]
theorem words_loop (o0 : SV) (gs : List GO) : ∀ (ws : List (List Nat)) (acc : List Nat) (s2 s3 s4 : SV), (∀ w ∈ ws, w.length ≤ 1000 ∧ Okl w) → acc.length + ws.length ≤ 2000 →
    ((∃ sl, loopM (putDat 2) b_parse_order_0 (ws.map tx) ⟨[o0, .own (acc.map fun k : Nat => PyData.int (k : Int)), s2, s3, s4], gs⟩ = .exc 6 ⟨sl, gs⟩) ∧ ∃ w ∈ ws, ∀ k, k ≤ 99 → w ≠ decL k) ∨
    ∃ (ks : List Nat) (s2' s3' s4' : SV), ws = ks.map decL ∧ (∀ k ∈ ks, k ≤ 99) ∧ loopM (putDat 2) b_parse_order_0 (ws.map tx) ⟨[o0, .own (acc.map fun k : Nat => PyData.int (k : Int)), s2, s3, s4], gs⟩ = .ok .nx ⟨[o0, .own ((acc ++ ks).map fun k : Nat => PyData.int (k : Int)), s2', s3', s4'], gs⟩ := by
  intro ws
  induction ws with
  | nil => intro acc s2 s3 s4 _ _; exact .inr ⟨[], s2, s3, s4, rfl, by simp, by simp [loopM]⟩
  | cons w ws ih =>
    intro acc s2 s3 s4 hw ha
    rw [List.length_cons] at ha
    obtain ⟨hl, ho⟩ := hw w (by simp)
    have hm : w.length ≤ maxLen := Nat.le_trans hl (by decide)
    have hlen := len_tx hm
    have hacc : acc.length < maxLen := by unfold maxLen; omega
    cases r : rnum (w.drop 0) with
    | none =>
      have E := number_no hl ho (p := 0) r gs
      simp only [Int.ofNat_zero, Int.natCast_zero] at E
      refine .inl ⟨⟨_, by rw [List.map_cons, loopM]; simp [E]; rfl⟩, w, by simp, fun k hk z => ?_⟩
      rw [List.drop_zero, z, ← List.append_nil (decL k), rnum_dec (r := []) hk trivial] at r
      cases r
    | some kd =>
      obtain ⟨k, d⟩ := kd
      obtain ⟨q, hq⟩ : ∃ q, q = 0 + d := ⟨_, rfl⟩
      have E := number_yes hl ho (p := 0) r hq gs
      simp only [Int.ofNat_zero, Int.natCast_zero] at E
      obtain ⟨F, k99, hd, _⟩ := rnum_sound r
      rw [List.drop_zero] at F hd
      have hqd : q = d := by omega
      subst hqd
      by_cases c : q = w.length
      · have hwd : w = decL k := by
          rw [c, List.drop_length, List.append_nil] at F
          exact F
        have hc : (q : Int) = (w.length : Int) := by omega
        rcases ih (acc ++ [k]) (.dat (tx w)) (.dat (.int (k : Int))) (.dat (.int (q : Int))) (fun v hv => hw v (List.mem_cons_of_mem _ hv)) (by rw [List.length_append, List.length_cons, List.length_nil]; omega) with ⟨⟨sl, e⟩, v, hv, hv2⟩ | ⟨ks, s2', s3', s4', e1, e2, e⟩
        · simp only [List.map_append, List.map_cons, List.map_nil] at e
          refine .inl ⟨⟨sl, ?_⟩, v, List.mem_cons_of_mem _ hv, hv2⟩
          rw [List.map_cons, loopM]
          rw [hc] at e
          simp [-lenD, E, hlen, hc, hacc, e]
        · refine .inr ⟨k :: ks, s2', s3', s4', by rw [List.map_cons, ← e1, ← hwd], ?_, ?_⟩
          · intro z hz
            rcases List.mem_cons.mp hz with rfl | hz
            · exact k99
            · exact e2 z hz
          · simp only [List.map_append, List.map_cons, List.map_nil, List.append_assoc, List.singleton_append] at e
            rw [List.map_cons, loopM]
            rw [hc] at e
            simp [-lenD, E, hlen, hc, hacc, e]
      · have hc : ¬ (q : Int) = (w.length : Int) := by omega
        refine .inl ⟨⟨_, by rw [List.map_cons, loopM]; simp [-lenD, E, hlen, hc]; rfl⟩, w, by simp, fun j hj z => c ?_⟩
        rw [List.drop_zero, z, ← List.append_nil (decL j), rnum_dec (r := []) hj trivial] at r
        simp only [Option.some.injEq, Prod.mk.injEq] at r
        rw [z, ← r.2]
end Tx
namespace JL
open PySem L2
theorem split_tx {l : List Nat} (hl : l.length ≤ 1000) (r : List SV) (gs : List GO) : mSplitV 0 32 ⟨.dat (tx l) :: r, gs⟩ = .ok (.dat (.list ((splitL 32 l).map tx))) ⟨.dat (tx l) :: r, gs⟩ := by
  show (if (⟨l.toArray⟩ : Str).length ≤ 100000 then R.ok (RV.dat (.list ((splitT ⟨l.toArray⟩ 32).map .str))) _ else _) = _
  rw [str_size, if_pos (by omega)]
  have : (splitT ⟨l.toArray⟩ 32).map PyData.str = (splitL 32 l).map tx := by
    unfold splitT
    rw [List.map_map]
    rfl
  rw [this]
theorem splitL_count (c : Nat) : ∀ l : List Nat, (splitL c l).length ≤ l.length + 1
  | [] => by simp [splitL]
  | x :: r => by
    have ih := splitL_count c r
    rw [splitL]
    split
    · simp only [List.length_cons]; omega
    · split
      · simp
      · rename_i p q e
        rw [e] at ih
        simp only [List.length_cons] at ih ⊢
        omega
theorem words_nat (ks : List Nat) : words (ks.map fun k : Nat => (k : Int)) = joinL 32 (ks.map decL) := by
  unfold words
  rw [List.map_map]
  rfl
theorem ok_dec (k : Nat) (h : k ≤ 99) : Okl (decL k) := by
  unfold decL
  intro c hc
  split at hc
  · simp at hc; omega
  · split at hc <;> (simp at hc; omega)
theorem Tr.wr_ok : ∀ t : Tr, t.Ks → Okl t.wr
  | .nil, _ => by intro c hc; simp [wr] at hc; omega
  | .node l k r, h => by
    obtain ⟨h1, h2, h3⟩ := ks_node.mp h
    have a1 := wr_ok l h1
    have a2 := wr_ok r h3
    have a3 := ok_dec k.toNat (by omega)
    intro c hc
    simp only [wr, List.mem_cons, List.mem_append, List.not_mem_nil, or_false] at hc
    rcases hc with z | z | z | z | z | z | z
    · omega
    · exact a3 c z
    · omega
    · exact a1 c z
    · omega
    · exact a2 c z
    · omega
theorem joinL_ok : ∀ ps : List (List Nat), (∀ p ∈ ps, Okl p) → Okl (joinL 32 ps)
  | [], _ => by intro c hc; simp [joinL] at hc
  | [p], h => h p (by simp)
  | p :: q :: r, h => by
    have ih := joinL_ok (q :: r) fun z hz => h z (List.mem_cons_of_mem _ hz)
    intro c hc
    rw [joinL] at hc
    · rcases List.mem_append.mp hc with z | z
      · exact h p (by simp) c z
      · rcases List.mem_cons.mp z with z | z
        · omega
        · exact ih c z
    · simp
theorem words_ok {ns : List Int} (h : ∀ x ∈ ns, 0 ≤ x ∧ x ≤ 99) : Okl (words ns) := by
  refine joinL_ok _ fun p hp => ?_
  obtain ⟨k, hk, rfl⟩ := List.mem_map.mp hp
  have := h k hk
  exact ok_dec _ (by omega)
theorem joinL_nil {ps : List (List Nat)} (h : ∀ p ∈ ps, p ≠ []) (e : joinL 32 ps = []) : ps = [] := by
  match ps, h, e with
  | [], _, _ => rfl
  | [p], h, e => exact absurd e (h p (by simp))
  | p :: q :: r, h, e =>
    rw [joinL] at e
    · simp at e
    · simp
theorem decL_ne (k : Nat) : decL k ≠ [] := by
  have := decL_len k
  intro z
  rw [z] at this
  simp at this
end JL
namespace Tx
open PySem JL L2
theorem is_order_any {ns : List Int} (h : ns.length ≤ 2000) (gs : List GO) : ∃ b, F_is_order [.dat (encL ns)] gs = .ok (.dat (.bool b)) gs := by
  have hc := comp_ints (i := 1) (el := mFn 1 F_is_key (mCons (mVar 1) mNil)) (fun i => .bool (decide (0 ≤ i) && decide (i ≤ 99))) ns [.dat (encL ns), .un] gs (by simp) rfl rfl (by omega) fun n hn acc => by simp [is_key_int]
  have hl2 : ns.length ≤ maxLen := by unfold maxLen; omega
  by_cases h9 : (9 : Int) < (ns.length : Int)
  · exact ⟨false, by simp [F_is_order, m_is_order, hl2, h9]⟩
  · cases hb : allB (ns.map fun i => decide (0 ≤ i) && decide (i ≤ 99)) with
    | false => exact ⟨false, by simp [F_is_order, m_is_order, hc, hl2, h9, hb]⟩
    | true => exact ⟨_, by simp [F_is_order, m_is_order, hc, hl2, h9, hb]; rfl⟩
section
variable {l : List Nat} (hl : l.length ≤ 1000) (ho : Okl l)
include hl ho
theorem parse_order_core (gs : List GO) : (F_parse_order [.dat (tx l)] gs = .exc 6 gs ∧ (∀ ns : List Int, Tr.Ord ns → l ≠ words ns)) ∨ ∃ ns : List Int, F_parse_order [.dat (tx l)] gs = .ok (.dat (encL ns)) gs ∧ l = words ns ∧ (∀ x ∈ ns, 0 ≤ x ∧ x ≤ 99) ∧ ns.length ≤ 1001 := by
  have hs := shaped_tx ho
  have hs0 : SeqAt.shaped (tx []) = true := shaped_tx (by intro c hc; cases hc)
  have hq := eqv_tx l []
  by_cases c : l = []
  · subst c
    rw [decide_eq_true rfl] at hq
    have ho1 : F_is_order [.dat (.list [])] gs = .ok (.dat (.bool true)) gs := is_order_ok (ns := []) ⟨.nil, by simp, by simp⟩ gs
    refine .inr ⟨[], ?_, rfl, by simp, by simp⟩
    simp [F_parse_order, m_parse_order, -isiD, isi_str_tx, c_no, hs0, hq, loopM, ho1]
  · rw [decide_eq_false c] at hq
    have hsp := split_tx hl [.own [], .un, .un, .un] gs
    have hw : ∀ w ∈ splitL 32 l, w.length ≤ 1000 ∧ Okl w := fun w hw => by
      obtain ⟨h1, h2⟩ := splitL_mem 32 l w hw
      exact ⟨by omega, fun z hz => ho z (h2 z hz)⟩
    have hcount := splitL_count 32 l
    rcases words_loop (.dat (tx l)) gs (splitL 32 l) [] .un .un .un hw (by simp; omega) with ⟨⟨sl, e⟩, w, hw1, hw2⟩ | ⟨ks, s2, s3, s4, e1, e2, e⟩
    · simp only [List.map_nil] at e
      refine .inl ⟨by simp [F_parse_order, m_parse_order, -isiD, -mSplitV, isi_str_tx, c_no, hs, hs0, hq, hsp, e], fun ns hn z => ?_⟩
      have hne : ns ≠ [] := by
        intro y
        subst y
        exact c z
      have : splitL 32 l = ns.map fun k => decL k.toNat := by
        rw [z]
        unfold words
        exact split_join (by simpa using hne) fun p hp => by
          obtain ⟨k, _, rfl⟩ := List.mem_map.mp hp
          exact dec_nosp _
      rw [this] at hw1
      obtain ⟨k, hk, rfl⟩ := List.mem_map.mp hw1
      have := hn.rng k hk
      exact hw2 k.toNat (by omega) rfl
    · simp only [List.map_nil, List.nil_append] at e
      have hlw : l = words (ks.map fun k : Nat => (k : Int)) := by
        rw [words_nat, ← e1, join_split']
      have hkl : ks.length ≤ 1001 := by
        have := congrArg List.length e1
        rw [List.length_map] at this
        omega
      have hmm : (ks.map fun k : Nat => PyData.int (k : Int)) = (ks.map fun k : Nat => (k : Int)).map .int := by rw [List.map_map]; rfl
      rw [hmm] at e
      have hrng : ∀ x ∈ (ks.map fun k : Nat => (k : Int)), 0 ≤ x ∧ x ≤ 99 := by
        intro x hx
        obtain ⟨k, hk, rfl⟩ := List.mem_map.mp hx
        have := e2 k hk
        omega
      have hinj : ∀ ns : List Int, Tr.Ord ns → l = words ns → ns = ks.map fun k : Nat => (k : Int) := fun ns hn z => by
        have hne : ns ≠ [] := by
          intro y
          subst y
          exact c z
        have : splitL 32 l = ns.map fun k => decL k.toNat := by
          rw [z]
          unfold words
          exact split_join (by simpa using hne) fun p hp => by
            obtain ⟨k, _, rfl⟩ := List.mem_map.mp hp
            exact dec_nosp _
        rw [this, show (ns.map fun k => decL k.toNat) = (ns.map Int.toNat).map decL by rw [List.map_map]; rfl] at e1
        have h1 := decs_inj (fun k hk => by obtain ⟨j, hj, rfl⟩ := List.mem_map.mp hk; have := hn.rng j hj; omega) e2 e1
        rw [← h1, List.map_map]
        have : ns.map ((fun k : Nat => (k : Int)) ∘ Int.toNat) = ns.map id := List.map_congr_left fun x hx => Int.toNat_of_nonneg (hn.rng x hx).1
        rw [this, List.map_id]
      generalize hns : (ks.map fun k : Nat => (k : Int)) = ns at *
      have hnl : ns.length ≤ 1001 := by rw [← hns, List.length_map]; exact hkl
      obtain ⟨b, hb⟩ := is_order_any (ns := ns) (by omega) gs
      cases b with
      | true =>
        exact .inr ⟨ns, by simp [F_parse_order, m_parse_order, -isiD, -mSplitV, isi_str_tx, c_no, hs, hs0, hq, hsp, e, hb], hlw, hrng, hnl⟩
      | false =>
        refine .inl ⟨by simp [F_parse_order, m_parse_order, -isiD, -mSplitV, isi_str_tx, c_no, hs, hs0, hq, hsp, e, hb], fun ms hn z => ?_⟩
        have := hinj ms hn z
        subst this
        rw [is_order_ok hn] at hb
        cases hb
end
theorem parse_order_full {ns : List Int} (h : Tr.Ord ns) (gs : List GO) : ∃ ms : List Int, F_parse_order [.dat (tx (words ns))] gs = .ok (.dat (encL ms)) gs ∧ words ns = words ms ∧ (∀ x ∈ ms, 0 ≤ x ∧ x ≤ 99) := by
  have hf := h.few
  have hw := words_len ns
  rcases parse_order_core (l := words ns) (by omega) (words_ok h.rng) gs with ⟨_, e⟩ | ⟨ms, e, e1, e2, _⟩
  · exact absurd rfl (e ns h)
  · exact ⟨ms, e, e1, e2⟩
theorem words_inj {a b : List Int} (ha : ∀ x ∈ a, 0 ≤ x ∧ x ≤ 99) (hb : ∀ x ∈ b, 0 ≤ x ∧ x ≤ 99) (h : words a = words b) : a = b := by
  have key : ∀ {a b : List Int}, (∀ x ∈ a, 0 ≤ x ∧ x ≤ 99) → (∀ x ∈ b, 0 ≤ x ∧ x ≤ 99) → a.map (fun k => decL k.toNat) = b.map (fun k => decL k.toNat) → a = b := by
    intro a b ha hb e
    rw [show (a.map fun k => decL k.toNat) = (a.map Int.toNat).map decL by rw [List.map_map]; rfl, show (b.map fun k => decL k.toNat) = (b.map Int.toNat).map decL by rw [List.map_map]; rfl] at e
    have h1 := decs_inj (fun k hk => by obtain ⟨j, hj, rfl⟩ := List.mem_map.mp hk; have := ha j hj; omega) (fun k hk => by obtain ⟨j, hj, rfl⟩ := List.mem_map.mp hk; have := hb j hj; omega) e
    have h2 := congrArg (List.map fun k : Nat => (k : Int)) h1
    rw [List.map_map, List.map_map] at h2
    have q1 : a.map ((fun k : Nat => (k : Int)) ∘ Int.toNat) = a.map id := List.map_congr_left fun x hx => Int.toNat_of_nonneg (ha x hx).1
    have q2 : b.map ((fun k : Nat => (k : Int)) ∘ Int.toNat) = b.map id := List.map_congr_left fun x hx => Int.toNat_of_nonneg (hb x hx).1
    rw [q1, q2, List.map_id, List.map_id] at h2
    exact h2
  have hnn : ∀ (c : List Int), ∀ p ∈ c.map (fun k => decL k.toNat), p ≠ [] := fun c p hp => by
    obtain ⟨k, _, rfl⟩ := List.mem_map.mp hp
    exact decL_ne _
  have hns : ∀ (c : List Int), ∀ p ∈ c.map (fun k => decL k.toNat), (32 : Nat) ∉ p := fun c p hp => by
    obtain ⟨k, _, rfl⟩ := List.mem_map.mp hp
    exact dec_nosp _
  unfold words at h
  by_cases c : a.map (fun k => decL k.toNat) = []
  · rw [c] at h
    have := joinL_nil (hnn b) h.symm
    exact key ha hb (by rw [c, this])
  · by_cases d : b.map (fun k => decL k.toNat) = []
    · rw [d] at h
      exact absurd (joinL_nil (hnn a) h) c
    · have h1 := split_join c (hns a)
      rw [h, split_join d (hns b)] at h1
      exact key ha hb h1.symm
theorem parse_order_back {ns : List Int} (h : Tr.Ord ns) (gs : List GO) : F_parse_order [.dat (tx (words ns))] gs = .ok (.dat (encL ns)) gs := by
  obtain ⟨ms, e, e1, e2⟩ := parse_order_full h gs
  rw [words_inj h.rng e2 e1]
  rw [words_inj h.rng e2 e1] at e
  exact e
end Tx
namespace JL
open PySem L2
theorem shaped_one {t : Tr} (h : t.height ≤ 20) : SeqAt.shaped (.list [enc t]) = true := by
  have h1 := depth_enc t
  unfold SeqAt.shaped
  rw [Bool.and_eq_true]
  have h2 := lay_trees [t]
  simp only [List.map_cons, List.map_nil] at h2
  refine ⟨by simp [PyData.canLay0, h2], decide_eq_true ?_⟩
  simp only [PyData.depth, PyData.depthAll]
  omega
theorem eqv_list_tx (ds : List PyData) (l : List Nat) : PyData.eqv (.list ds) (tx l) = false := by
  cases ds <;> simp [tx, PyData.eqv]
end JL
namespace Tx
open PySem JL L2
theorem law_written_small {t : Tr} (h : t.height ≤ 10) (hk : t.Ks) (hw : t.wr.length ≤ 1000) (gs : List GO) : F_law_written [.dat (enc t)] gs = .ok (.dat (tx t.wr)) gs := law_written_ok t 15 gs (by omega) hk hw
theorem words_sum (ns : List Int) : ((ns.map fun k => decL k.toNat).map (·.length)).sum + (ns.map fun k => decL k.toNat).length ≤ 4 * ns.length := by
  have := sum_dec ns
  rw [List.length_map]
  omega
theorem str_key {k : Int} (h : 0 ≤ k ∧ k ≤ 99) : strD [.int k] = some (tx (decL k.toNat)) := by
  have := str_tx (n := k.toNat) (by omega)
  rwa [Int.toNat_of_nonneg h.1] at this
theorem dec_list (ns : List Int) : (ns.map fun k => tx (decL k.toNat)) = (ns.map fun k => decL k.toNat).map tx := by rw [List.map_map]; rfl
theorem law_words_ok {ns : List Int} (h : ∀ x ∈ ns, 0 ≤ x ∧ x ≤ 99) (hl : ns.length ≤ 2000) (gs : List GO) : F_law_words [.dat (encL ns)] gs = .ok (.dat (tx (words ns))) gs := by
  have hc := comp_ints (i := 1) (el := e_law_words_0) (fun k => tx (decL k.toNat)) ns [.dat (encL ns), .un] gs (by simp) rfl rfl (by omega) fun n hn acc => by simp [-strD, str_key (h n hn)]
  have hsum := words_sum ns
  rw [dec_list] at hc
  have ej : mJoinC " " (mLc [1] 1 (mVar 0) mYes e_law_words_0) ⟨[.dat (encL ns), .un], gs⟩ = .ok (.dat (tx (words ns))) ⟨[.dat (encL ns), .un], gs⟩ :=
    join_tx (rv := .dat (.list ((ns.map fun k => decL k.toNat).map tx))) (ls := ns.map fun k => decL k.toNat) (by simp [hc]) (by rfl) (by omega)
  simp only [encL] at ej
  simp [F_law_words, m_law_words, -mJoinC, ej]
theorem format_order_ok {ns : List Int} (h : Tr.Ord ns) (gs : List GO) : F_format_order [.dat (encL ns)] gs = .ok (.dat (tx (words ns))) gs := by
  have hf := h.few
  have hc := comp_ints (i := 1) (el := e_format_order_0) (fun k => tx (decL k.toNat)) ns [.dat (encL ns), .un] gs (by simp) rfl rfl (by omega) fun n hn acc => by simp [-strD, str_key (h.rng n hn)]
  have hsum := words_sum ns
  rw [dec_list] at hc
  have ej : mJoinC " " (mLc [1] 1 (mVar 0) mYes e_format_order_0) ⟨[.dat (encL ns), .un], gs⟩ = .ok (.dat (tx (words ns))) ⟨[.dat (encL ns), .un], gs⟩ :=
    join_tx (rv := .dat (.list ((ns.map fun k => decL k.toNat).map tx))) (ls := ns.map fun k => decL k.toNat) (by simp [hc]) (by rfl) (by omega)
  simp only [encL] at ej
  simp [F_format_order, m_format_order, -mJoinC, ej, check_order_ok h]
theorem format_tree_ok {t : Tr} (h : t.Ok) (gs : List GO) : F_format_tree [.dat (enc t)] gs = .ok (.dat (tx t.wr)) gs := by
  have hw := t.wr_len
  have hf := h.few
  have hh := t.height_le
  simp [F_format_tree, m_format_tree, check_tree_ok h, F_written, written_ok t 15 gs (by omega) h.rng (by omega)]
theorem law_error_6 (g0 : GO) : F_law_error [.hdl 1] [g0, .exn 6] = .ok (.dat (.str "text")) [g0, .exn 6] := by kernel_rfl
theorem parsed_tree {l : List Nat} (hl : l.length ≤ 1000) (ho : Okl l) (g0 : GO) : F_law_parsed [.dat (.int 0), .dat (tx l)] [g0] = .ok (.dat (.str "text")) [g0] ∨ ∃ t : Tr, F_law_parsed [.dat (.int 0), .dat (tx l)] [g0] = .ok (.dat (.list [enc t])) [g0] ∧ l = t.wr ∧ t.Ks ∧ t.height ≤ 10 := by
  have e6 := law_error_6 g0
  rcases parse_tree_sound hl ho [g0] with e | ⟨t, e, h⟩
  · exact .inl (by simp [F_law_parsed, m_law_parsed, e, e6, mIsNH, okE, offS])
  · exact .inr ⟨t, by simp [F_law_parsed, m_law_parsed, e, mIsNH, okE, offS], h⟩
theorem parsed_order {l : List Nat} (hl : l.length ≤ 1000) (ho : Okl l) (g0 : GO) : F_law_parsed [.dat (.int 1), .dat (tx l)] [g0] = .ok (.dat (.str "text")) [g0] ∨ ∃ ns : List Int, F_law_parsed [.dat (.int 1), .dat (tx l)] [g0] = .ok (.dat (.list [encL ns])) [g0] ∧ l = words ns ∧ (∀ x ∈ ns, 0 ≤ x ∧ x ≤ 99) ∧ ns.length ≤ 1001 := by
  have e6 := law_error_6 g0
  rcases parse_order_core hl ho [g0] with ⟨e, _⟩ | ⟨t, e, h⟩
  · exact .inl (by simp [F_law_parsed, m_law_parsed, e, e6, mIsNH, okE, offS])
  · exact .inr ⟨t, by simp [F_law_parsed, m_law_parsed, e, mIsNH, okE, offS], h⟩
end Tx
namespace Tx
open PySem JL L2
theorem draw_any {ns : List Int} {c : Int} {n : Nat} (h0 : 0 < ns.length) (h1 : ns.length ≤ 63) (l0 : 0 < n) (l1 : n < 1000000) : ∃ (v : Nat) (ns' : List Int), v < n ∧ ns'.length = ns.length ∧ F_law_draw [.hdl 0, .dat (.int (n : Int))] [.drw ns c] = .ok (.dat (.int (v : Int))) [.drw ns' (c + 1)] := by
  have e := draw_ok (c := c) (lim := (n : Int)) h0 h1 (by omega) (by omega) []
  have hv0 := drawVal_nonneg ns c (n : Int) (by omega)
  have hv1 := drawVal_lt ns c (n : Int) (by omega)
  refine ⟨(drawVal ns c (n : Int)).toNat, _, by omega, drawRow_len ns c n, ?_⟩
  rw [e, Int.toNat_of_nonneg hv0]
theorem pick_any {ns : List Int} {c : Int} (h0 : 0 < ns.length) (h1 : ns.length ≤ 63) (ds : List PyData) (d0 : 0 < ds.length) (d1 : ds.length < 1000000) :
    ∃ d ∈ ds, ∃ ns' : List Int, ns'.length = ns.length ∧ F_law_pick [.hdl 0, .dat (.list ds)] [.drw ns c] = .ok (.dat d) [.drw ns' (c + 1)] := by
  obtain ⟨d, hd, e⟩ := pick_ok (c := c) h0 h1 ds d0 d1 []
  exact ⟨d, hd, _, drawRow_len _ _ _, e⟩
theorem mark_tx : ∀ d ∈ ([.str "0", .str "1", .str "9", .str ".", .str "(", .str ")", .str " ", .str "-", .str ""] : List PyData), ∃ m : List Nat, d = tx m ∧ m.length ≤ 1 ∧ Okl m := by
  intro d hd
  simp only [List.mem_cons, List.not_mem_nil, or_false] at hd
  have one : ∀ c : Nat, c < 1000 → Okl [c] := fun c h d hd => by simp at hd; omega
  rcases hd with rfl | rfl | rfl | rfl | rfl | rfl | rfl | rfl | rfl
  · exact ⟨[48], str_eq (by decide +kernel), by decide, one _ (by decide)⟩
  · exact ⟨[49], str_eq (by decide +kernel), by decide, one _ (by decide)⟩
  · exact ⟨[57], str_eq (by decide +kernel), by decide, one _ (by decide)⟩
  · exact ⟨[46], str_eq (by decide +kernel), by decide, one _ (by decide)⟩
  · exact ⟨[40], str_eq (by decide +kernel), by decide, one _ (by decide)⟩
  · exact ⟨[41], str_eq (by decide +kernel), by decide, one _ (by decide)⟩
  · exact ⟨[32], str_eq (by decide +kernel), by decide, one _ (by decide)⟩
  · exact ⟨[45], str_eq (by decide +kernel), by decide, one _ (by decide)⟩
  · exact ⟨[], str_eq (by decide +kernel), by decide, fun c hc => by cases hc⟩
theorem changed {l m : List Nat} {p : Nat} (hl : l.length ≤ 400) (ho : Okl l) (hm : m.length ≤ 1) (hmo : Okl m) (hp : p ≤ l.length) (q : Nat) (hq : p ≤ q) :
    sliceD (tx l) none (some (p : Int)) = some (tx (l.take p)) ∧ addD (tx (l.take p)) (tx m) = some (tx (l.take p ++ m)) ∧ sliceD (tx l) (some (q : Int)) none = some (tx (l.drop q)) ∧
    addD (tx (l.take p ++ m)) (tx (l.drop q)) = some (tx (l.take p ++ m ++ l.drop q)) ∧ (l.take p ++ m ++ l.drop q).length ≤ 1000 ∧ Okl (l.take p ++ m ++ l.drop q) := by
  have h3 : l.length ≤ maxLen := Nat.le_trans hl (by decide)
  have h4 : (2000 : Nat) ≤ maxLen := by decide
  have a1 : (l.take p).length ≤ l.length := by rw [List.length_take]; omega
  have a2 : (l.drop q).length ≤ l.length := by rw [List.length_drop]; omega
  refine ⟨slice_to h3 p, add_tx (by omega), slice_from h3 q, add_tx (by rw [List.length_append]; omega), by rw [List.length_append, List.length_append]; omega, fun c hc => ?_⟩
  rcases List.mem_append.mp hc with z | z
  · rcases List.mem_append.mp z with z | z
    · exact ho c (List.mem_of_mem_take z)
    · exact hmo c z
  · exact ho c (List.mem_of_mem_drop z)
theorem turn0 {lt lw : List Nat} (hl : lt.length ≤ 400) (ho : Okl lt) {ns : List Int} {c : Int} (h0 : 0 < ns.length) (h1 : ns.length ≤ 63) (s0 s2 s3 s4 s8 s9 s10 s11 s12 : SV) :
    ∃ (s8' s9' s10' s11' s12' : SV) (ns' : List Int) (c' : Int), ns'.length = ns.length ∧ b_law_0 ⟨[s0, .hdl 0, s2, s3, s4, .dat (tx lt), .dat (tx lw), .dat (.int 0), s8, s9, s10, s11, s12], [.drw ns c]⟩ = .ok .nx ⟨[s0, .hdl 0, s2, s3, s4, .dat (tx lt), .dat (tx lw), .dat (.int 0), s8', s9', s10', s11', s12'], [.drw ns' c']⟩ := by
  have ai : ∀ a b : Int, addD (.int a) (.int b) = some (.int (a + b)) := fun _ _ => rfl
  have hlen := len_tx (a := lt) (Nat.le_trans hl (by decide))
  obtain ⟨p, ns1, hp, n1, e1⟩ := draw_any (c := c) (n := lt.length + 1) h0 h1 (by omega) (by omega)
  obtain ⟨d, hd, ns2, n2, e2⟩ := pick_any (c := c + 1) (ns := ns1) (by omega) (by omega) [.str "0", .str "1", .str "9", .str ".", .str "(", .str ")", .str " ", .str "-", .str ""] (by simp) (by simp)
  obtain ⟨m, rfl, hm, hmo⟩ := mark_tx d hd
  obtain ⟨q1, q2, q3, q4, q5, q6⟩ := changed hl ho hm hmo (p := p) (by omega) (p + 1) (by omega)
  obtain ⟨_, _, r3, r4, r5, r6⟩ := changed hl ho hm hmo (p := p) (by omega) p (by omega)
  obtain ⟨d2, hd2, ns3, n3, e3⟩ := pick_any (c := c + 1 + 1) (ns := ns2) (by omega) (by omega) [tx (lt.take p ++ m ++ lt.drop (p + 1)), tx (lt.take p ++ m ++ lt.drop p)] (by simp) (by simp)
  obtain ⟨ol, rfl, g1, g2⟩ : ∃ ol, d2 = tx ol ∧ ol.length ≤ 1000 ∧ Okl ol := by
    simp only [List.mem_cons, List.not_mem_nil, or_false] at hd2
    rcases hd2 with rfl | rfl
    · exact ⟨_, rfl, q5, q6⟩
    · exact ⟨_, rfl, r5, r6⟩
  have hc1 : ((lt.length + 1 : Nat) : Int) = (lt.length : Int) + 1 := by omega
  have hc2 : ((p + 1 : Nat) : Int) = (p : Int) + 1 := by omega
  rw [hc1] at e1
  rw [hc2] at q3
  generalize lt.take p ++ m = A at *
  generalize A ++ lt.drop (p + 1) = B at *
  generalize A ++ lt.drop p = B2 at *
  have st : SeqAt.shaped (tx [116, 101, 120, 116]) = true := shaped_tx (by intro c hc; simp at hc; omega)
  rcases parsed_tree g1 g2 (.drw ns3 (c + 1 + 1 + 1)) with e4 | ⟨t, e4, g3, g4, g5⟩
  · rw [c_text] at e4
    have ee := eqv_tx [116, 101, 120, 116] [116, 101, 120, 116]
    rw [decide_eq_true rfl] at ee
    refine ⟨.dat (tx lt), .dat (.int p), .dat (tx m), .dat (tx ol), .dat (tx [116, 101, 120, 116]), ns3, c + 1 + 1 + 1, by omega, ?_⟩
    simp [-lenD, -sliceD, -addD, ai, atI, ixN, hlen, e1, e2, q1, q2, q3, q4, r3, r4, e3, e4, c_text, st, ee]
  · have e5 := law_written_small g5 g4 (by rw [← g3]; exact g1) [.drw ns3 (c + 1 + 1 + 1)]
    have ee := eqv_list_tx [enc t] [116, 101, 120, 116]
    have ef := eqv_tx ol t.wr
    rw [decide_eq_true g3] at ef
    have so := shaped_tx g2
    have sw : SeqAt.shaped (tx t.wr) = true := by rw [← g3]; exact so
    have sl := shaped_one (t := t) (by omega)
    refine ⟨.dat (tx lt), .dat (.int p), .dat (tx m), .dat (tx ol), .dat (.list [enc t]), ns3, c + 1 + 1 + 1, by omega, ?_⟩
    simp [-lenD, -sliceD, -addD, ai, atI, ixN, hlen, e1, e2, q1, q2, q3, q4, r3, r4, e3, e4, c_text, st, ee, sl, e5, so, sw, ef]
end Tx
namespace Tx
open PySem JL L2
theorem shaped_row1 (ns : List Int) : SeqAt.shaped (.list [encL ns]) = true := by
  have h := shaped_ints ns
  unfold SeqAt.shaped at h ⊢
  rw [Bool.and_eq_true] at h ⊢
  have h2 := of_decide_eq_true h.2
  refine ⟨by simpa [PyData.canLay0, PyData.canLayAll0] using h.1, decide_eq_true ?_⟩
  have h3 : ∀ ms : List Int, PyData.depthAll (ms.map .int) = 0 := by
    intro ms
    induction ms with
    | nil => rfl
    | cons m r ih => simp [PyData.depthAll, PyData.depth, ih]
  simp [PyData.depth, PyData.depthAll, h3]
theorem turn1 {lt lw : List Nat} (hl : lw.length ≤ 400) (ho : Okl lw) {ns : List Int} {c : Int} (h0 : 0 < ns.length) (h1 : ns.length ≤ 63) (s0 s2 s3 s4 s8 s9 s10 s11 s12 : SV) :
    ∃ (s8' s9' s10' s11' s12' : SV) (ns' : List Int) (c' : Int), ns'.length = ns.length ∧ b_law_0 ⟨[s0, .hdl 0, s2, s3, s4, .dat (tx lt), .dat (tx lw), .dat (.int 1), s8, s9, s10, s11, s12], [.drw ns c]⟩ = .ok .nx ⟨[s0, .hdl 0, s2, s3, s4, .dat (tx lt), .dat (tx lw), .dat (.int 1), s8', s9', s10', s11', s12'], [.drw ns' c']⟩ := by
  have ai : ∀ a b : Int, addD (.int a) (.int b) = some (.int (a + b)) := fun _ _ => rfl
  have hlen := len_tx (a := lw) (Nat.le_trans hl (by decide))
  obtain ⟨p, ns1, hp, n1, e1⟩ := draw_any (c := c) (n := lw.length + 1) h0 h1 (by omega) (by omega)
  obtain ⟨d, hd, ns2, n2, e2⟩ := pick_any (c := c + 1) (ns := ns1) (by omega) (by omega) [.str "0", .str "1", .str "9", .str ".", .str "(", .str ")", .str " ", .str "-", .str ""] (by simp) (by simp)
  obtain ⟨m, rfl, hm, hmo⟩ := mark_tx d hd
  obtain ⟨q1, q2, q3, q4, q5, q6⟩ := changed hl ho hm hmo (p := p) (by omega) (p + 1) (by omega)
  obtain ⟨_, _, r3, r4, r5, r6⟩ := changed hl ho hm hmo (p := p) (by omega) p (by omega)
  obtain ⟨d2, hd2, ns3, n3, e3⟩ := pick_any (c := c + 1 + 1) (ns := ns2) (by omega) (by omega) [tx (lw.take p ++ m ++ lw.drop (p + 1)), tx (lw.take p ++ m ++ lw.drop p)] (by simp) (by simp)
  obtain ⟨ol, rfl, g1, g2⟩ : ∃ ol, d2 = tx ol ∧ ol.length ≤ 1000 ∧ Okl ol := by
    simp only [List.mem_cons, List.not_mem_nil, or_false] at hd2
    rcases hd2 with rfl | rfl
    · exact ⟨_, rfl, q5, q6⟩
    · exact ⟨_, rfl, r5, r6⟩
  have hc1 : ((lw.length + 1 : Nat) : Int) = (lw.length : Int) + 1 := by omega
  have hc2 : ((p + 1 : Nat) : Int) = (p : Int) + 1 := by omega
  rw [hc1] at e1
  rw [hc2] at q3
  generalize lw.take p ++ m = A at *
  generalize A ++ lw.drop (p + 1) = B at *
  generalize A ++ lw.drop p = B2 at *
  have st : SeqAt.shaped (tx [116, 101, 120, 116]) = true := shaped_tx (by intro c hc; simp at hc; omega)
  rcases parsed_order g1 g2 (.drw ns3 (c + 1 + 1 + 1)) with e4 | ⟨t, e4, g3, g4, g5⟩
  · rw [c_text] at e4
    have ee := eqv_tx [116, 101, 120, 116] [116, 101, 120, 116]
    rw [decide_eq_true rfl] at ee
    refine ⟨.dat (tx lw), .dat (.int p), .dat (tx m), .dat (tx ol), .dat (tx [116, 101, 120, 116]), ns3, c + 1 + 1 + 1, by omega, ?_⟩
    simp [-lenD, -sliceD, -addD, ai, atI, ixN, hlen, e1, e2, q1, q2, q3, q4, r3, r4, e3, e4, c_text, st, ee]
  · have e5 := law_words_ok g4 (by omega) [.drw ns3 (c + 1 + 1 + 1)]
    have ee := eqv_list_tx [encL t] [116, 101, 120, 116]
    have ef := eqv_tx ol (words t)
    rw [decide_eq_true g3] at ef
    have so := shaped_tx g2
    have sw : SeqAt.shaped (tx (words t)) = true := by rw [← g3]; exact so
    have sl : SeqAt.shaped (.list [encL t]) = true := shaped_row1 t
    refine ⟨.dat (tx lw), .dat (.int p), .dat (tx m), .dat (tx ol), .dat (.list [encL t]), ns3, c + 1 + 1 + 1, by omega, ?_⟩
    simp only [encL] at *
    simp [-lenD, -sliceD, -addD, ai, atI, ixN, hlen, e1, e2, q1, q2, q3, q4, r3, r4, e3, e4, c_text, st, ee, sl, e5, so, sw, ef]
theorem both {lt lw : List Nat} (hl : lt.length ≤ 400) (ho : Okl lt) (hl' : lw.length ≤ 400) (ho' : Okl lw) {ns : List Int} {c : Int} (h0 : 0 < ns.length) (h1 : ns.length ≤ 63) (s0 s2 s3 s4 s7 s8 s9 s10 s11 s12 : SV) :
    ∃ (s7' s8' s9' s10' s11' s12' : SV) (ns' : List Int) (c' : Int), ns'.length = ns.length ∧ b_law_1 ⟨[s0, .hdl 0, s2, s3, s4, .dat (tx lt), .dat (tx lw), s7, s8, s9, s10, s11, s12], [.drw ns c]⟩ = .ok .nx ⟨[s0, .hdl 0, s2, s3, s4, .dat (tx lt), .dat (tx lw), s7', s8', s9', s10', s11', s12'], [.drw ns' c']⟩ := by
  obtain ⟨a8, a9, a10, a11, a12, ns1, c1, n1, e1⟩ := turn0 (lw := lw) hl ho (c := c) h0 h1 s0 s2 s3 s4 s8 s9 s10 s11 s12
  obtain ⟨d8, d9, d10, d11, d12, ns2, c2, n2, e2⟩ := turn1 (lt := lt) hl' ho' (c := c1) (ns := ns1) (by omega) (by omega) s0 s2 s3 s4 a8 a9 a10 a11 a12
  refine ⟨.dat (.int 1), d8, d9, d10, d11, d12, ns2, c2, by omega, ?_⟩
  show mFor 7 _ b_law_0 _ = _
  generalize b_law_0 = B at *
  simp [loopM, e1, e2]
theorem eight {lt lw : List Nat} (hl : lt.length ≤ 400) (ho : Okl lt) (hl' : lw.length ≤ 400) (ho' : Okl lw) (s0 s2 s3 : SV) : ∀ (its : List PyData) (ns : List Int) (c : Int) (s4 s7 s8 s9 s10 s11 s12 : SV), 0 < ns.length → ns.length ≤ 63 →
    ∃ (st : ST) (ns' : List Int) (c' : Int), loopM (putDat 4) b_law_1 its ⟨[s0, .hdl 0, s2, s3, s4, .dat (tx lt), .dat (tx lw), s7, s8, s9, s10, s11, s12], [.drw ns c]⟩ = .ok .nx st ∧ st.gs = [.drw ns' c'] := by
  intro its
  induction its with
  | nil => intro ns c s4 s7 s8 s9 s10 s11 s12 _ _; exact ⟨_, ns, c, rfl, rfl⟩
  | cons d r ih =>
    intro ns c s4 s7 s8 s9 s10 s11 s12 h0 h1
    obtain ⟨a7, a8, a9, a10, a11, a12, ns1, c1, n1, e1⟩ := both hl ho hl' ho' (c := c) h0 h1 s0 s2 s3 (.dat d) s7 s8 s9 s10 s11 s12
    obtain ⟨st, ns2, c2, e2, e3⟩ := ih ns1 c1 (.dat d) a7 a8 a9 a10 a11 a12 (by omega) (by omega)
    refine ⟨st, ns2, c2, ?_, e3⟩
    rw [loopM]
    generalize b_law_1 = B at *
    simp [e1, e2]
theorem law_runs (ns : List Int) (h0 : 0 < ns.length) (h63 : ns.length ≤ 63) : ∃ st', m_law (lawStart 13 1 ns) = .ok (.ret (.dat (.bool true))) st' := by
  obtain ⟨order, ns1, c1, e1, ho, _, hn1⟩ := order_ok (ns := ns) (c := 0) 9 (by decide) (by decide) h0 h63 []
  have hok := Tr.ofL_ok ho
  have elt := law_tree_ok ho.few [.drw ns1 c1]
  generalize Tr.ofL order = t at *
  have hw := t.wr_len
  have hf := hok.few
  have hh := t.height_le
  have ho9 := ho.few
  have hwl := words_len order
  have okt := Tr.wr_ok t hok.rng
  have oko := words_ok ho.rng
  have e2 := format_tree_ok hok [.drw ns1 c1]
  have e3 := format_order_ok ho [.drw ns1 c1]
  have e4 := law_written_small (t := t) (by omega) hok.rng (by omega) [.drw ns1 c1]
  have e5 := parse_tree_full hok okt [.drw ns1 c1]
  have e6 := law_words_ok ho.rng (by omega) [.drw ns1 c1]
  have e7 := parse_order_back ho [.drw ns1 c1]
  have q1 := eqv_tx t.wr t.wr
  rw [decide_eq_true rfl] at q1
  have q2 := eqv_tx (words order) (words order)
  rw [decide_eq_true rfl] at q2
  have h62 : in62 8 = true := in62_small (by decide) (by decide)
  obtain ⟨st, ns2, c2, e8, e9⟩ := eight (lt := t.wr) (lw := words order) (by omega) okt (by omega) oko .un (.dat (encL order)) (.dat (enc t)) (rangeD 0 8) ns1 c1 .un .un .un .un .un .un .un (by omega) (by omega)
  have hst : lawStart 13 1 ns = ⟨[.un, .hdl 0, .un, .un, .un, .un, .un, .un, .un, .un, .un, .un, .un], [.drw ns 0]⟩ := rfl
  have e10 := rej ns2 c2
  obtain ⟨sl, gs⟩ := st
  simp only at e9
  subst e9
  rw [hst]
  generalize hB : b_law_1 = B at *
  simp [m_law, ml_0, ml_1, ml_2, ml_3, ml_4, ml_5, hB, e1, elt, e2, e3, e4, e5, e6, e7, q1, q2, shaped_tx okt, shaped_tx oko, hok.shaped, eqv_enc, h62, e8, e10]
end Tx
open PySem PySem.W PyProof.Rows
set_option maxRecDepth 100000 in
set_option maxHeartbeats 0 in
theorem PySem.Challenge.cw_treeorders_k19_whole_texts_holds : PySem.Challenge.rw_treeorders_k19_whole_texts.Holds := by
  w_on; o_law; k_head; (case hw => w_witness2)
  k_fill
  refine JL.walk (l := PySem.Challenge.rw_treeorders_k19_whole_texts) (k := 22) rfl rfl ⟨rfl, by decide, by decide⟩ (fun w h Y => PySem.W.kIn_of Y) ?F
  case F =>
    intro w mg fa h KX G hmg
    have h_is_int : JL.Def (JL.Kof KX) mg "is_int" Tx.s_is_int ["value", "low", "high"] := by
      unfold JL.Kof
      refine' JL.def_mk KX G ?a ?l ?c ?k (fun _ _ _ _ _ _ us hl => match us, hl with | [_, _, _], _ => rfl)
      (case a => k_is); (case l => k_is); (case c => k_is); (case k => k_is)
    have h_is_key : JL.Def (JL.Kof KX) mg "is_key" Tx.s_is_key ["value"] := by
      unfold JL.Kof
      refine' JL.def_mk KX G ?a ?l ?c ?k (fun _ _ _ _ _ _ us hl => match us, hl with | [_], _ => rfl)
      (case a => k_is); (case l => k_is); (case c => k_is); (case k => k_is)
    have h_is_order : JL.Def (JL.Kof KX) mg "is_order" Tx.s_is_order ["value"] := by
      unfold JL.Kof
      refine' JL.def_mk KX G ?a ?l ?c ?k (fun _ _ _ _ _ _ us hl => match us, hl with | [_], _ => rfl)
      (case a => k_is); (case l => k_is); (case c => k_is); (case k => k_is)
    have h_check_order : JL.Def (JL.Kof KX) mg "check_order" Tx.s_check_order ["value"] := by
      unfold JL.Kof
      refine' JL.def_mk KX G ?a ?l ?c ?k (fun _ _ _ _ _ _ us hl => match us, hl with | [_], _ => rfl)
      (case a => k_is); (case l => k_is); (case c => k_is); (case k => k_is)
    have h_is_part : JL.Def (JL.Kof KX) mg "is_part" Tx.s_is_part ["value", "low", "high", "room"] := by
      unfold JL.Kof
      refine' JL.def_mk KX G ?a ?l ?c ?k (fun _ _ _ _ _ _ us hl => match us, hl with | [_, _, _, _], _ => rfl)
      (case a => k_is); (case l => k_is); (case c => k_is); (case k => k_is)
    have h_is_tree : JL.Def (JL.Kof KX) mg "is_tree" Tx.s_is_tree ["value"] := by
      unfold JL.Kof
      refine' JL.def_mk KX G ?a ?l ?c ?k (fun _ _ _ _ _ _ us hl => match us, hl with | [_], _ => rfl)
      (case a => k_is); (case l => k_is); (case c => k_is); (case k => k_is)
    have h_check_tree : JL.Def (JL.Kof KX) mg "check_tree" Tx.s_check_tree ["tree"] := by
      unfold JL.Kof
      refine' JL.def_mk KX G ?a ?l ?c ?k (fun _ _ _ _ _ _ us hl => match us, hl with | [_], _ => rfl)
      (case a => k_is); (case l => k_is); (case c => k_is); (case k => k_is)
    have h_written : JL.Def (JL.Kof KX) mg "written" Tx.s_written ["tree"] := by
      unfold JL.Kof
      refine' JL.def_mk KX G ?a ?l ?c ?k (fun _ _ _ _ _ _ us hl => match us, hl with | [_], _ => rfl)
      (case a => k_is); (case l => k_is); (case c => k_is); (case k => k_is)
    have h_format_tree : JL.Def (JL.Kof KX) mg "format_tree" Tx.s_format_tree ["tree"] := by
      unfold JL.Kof
      refine' JL.def_mk KX G ?a ?l ?c ?k (fun _ _ _ _ _ _ us hl => match us, hl with | [_], _ => rfl)
      (case a => k_is); (case l => k_is); (case c => k_is); (case k => k_is)
    have h_read_number : JL.Def (JL.Kof KX) mg "read_number" Tx.s_read_number ["text", "at"] := by
      unfold JL.Kof
      refine' JL.def_mk KX G ?a ?l ?c ?k (fun _ _ _ _ _ _ us hl => match us, hl with | [_, _], _ => rfl)
      (case a => k_is); (case l => k_is); (case c => k_is); (case k => k_is)
    have h_expect : JL.Def (JL.Kof KX) mg "expect" Tx.s_expect ["text", "at", "sign"] := by
      unfold JL.Kof
      refine' JL.def_mk KX G ?a ?l ?c ?k (fun _ _ _ _ _ _ us hl => match us, hl with | [_, _, _], _ => rfl)
      (case a => k_is); (case l => k_is); (case c => k_is); (case k => k_is)
    have h_read_tree : JL.Def (JL.Kof KX) mg "read_tree" Tx.s_read_tree ["text", "at", "depth"] := by
      unfold JL.Kof
      refine' JL.def_mk KX G ?a ?l ?c ?k (fun _ _ _ _ _ _ us hl => match us, hl with | [_, _, _], _ => rfl)
      (case a => k_is); (case l => k_is); (case c => k_is); (case k => k_is)
    have h_parse_tree : JL.Def (JL.Kof KX) mg "parse_tree" Tx.s_parse_tree ["text"] := by
      unfold JL.Kof
      refine' JL.def_mk KX G ?a ?l ?c ?k (fun _ _ _ _ _ _ us hl => match us, hl with | [_], _ => rfl)
      (case a => k_is); (case l => k_is); (case c => k_is); (case k => k_is)
    have h_format_order : JL.Def (JL.Kof KX) mg "format_order" Tx.s_format_order ["order"] := by
      unfold JL.Kof
      refine' JL.def_mk KX G ?a ?l ?c ?k (fun _ _ _ _ _ _ us hl => match us, hl with | [_], _ => rfl)
      (case a => k_is); (case l => k_is); (case c => k_is); (case k => k_is)
    have h_parse_order : JL.Def (JL.Kof KX) mg "parse_order" Tx.s_parse_order ["text"] := by
      unfold JL.Kof
      refine' JL.def_mk KX G ?a ?l ?c ?k (fun _ _ _ _ _ _ us hl => match us, hl with | [_], _ => rfl)
      (case a => k_is); (case l => k_is); (case c => k_is); (case k => k_is)
    have h__law_start : JL.Def (JL.Kof KX) mg "_law_start" Tx.s_law_start ["script"] := by
      unfold JL.Kof
      refine' JL.def_mk KX G ?a ?l ?c ?k (fun _ _ _ _ _ _ us hl => match us, hl with | [_], _ => rfl)
      (case a => k_is); (case l => k_is); (case c => k_is); (case k => k_is)
    have h__law_draw : JL.Def (JL.Kof KX) mg "_law_draw" Tx.s_law_draw ["draws", "limit"] := by
      unfold JL.Kof
      refine' JL.def_mk KX G ?a ?l ?c ?k (fun _ _ _ _ _ _ us hl => match us, hl with | [_, _], _ => rfl)
      (case a => k_is); (case l => k_is); (case c => k_is); (case k => k_is)
    have h__law_pick : JL.Def (JL.Kof KX) mg "_law_pick" Tx.s_law_pick ["draws", "choices"] := by
      unfold JL.Kof
      refine' JL.def_mk KX G ?a ?l ?c ?k (fun _ _ _ _ _ _ us hl => match us, hl with | [_, _], _ => rfl)
      (case a => k_is); (case l => k_is); (case c => k_is); (case k => k_is)
    have h__law_error : JL.Def (JL.Kof KX) mg "_law_error" Tx.s_law_error ["caught"] := by
      unfold JL.Kof
      refine' JL.def_mk KX G ?a ?l ?c ?k (fun _ _ _ _ _ _ us hl => match us, hl with | [_], _ => rfl)
      (case a => k_is); (case l => k_is); (case c => k_is); (case k => k_is)
    have h__law_order : JL.Def (JL.Kof KX) mg "_law_order" Tx.s_law_order ["draws", "most"] := by
      unfold JL.Kof
      refine' JL.def_mk KX G ?a ?l ?c ?k (fun _ _ _ _ _ _ us hl => match us, hl with | [_, _], _ => rfl)
      (case a => k_is); (case l => k_is); (case c => k_is); (case k => k_is)
    have h__law_leaf : JL.Def (JL.Kof KX) mg "_law_leaf" Tx.s_law_leaf ["tree", "key"] := by
      unfold JL.Kof
      refine' JL.def_mk KX G ?a ?l ?c ?k (fun _ _ _ _ _ _ us hl => match us, hl with | [_, _], _ => rfl)
      (case a => k_is); (case l => k_is); (case c => k_is); (case k => k_is)
    have h__law_tree : JL.Def (JL.Kof KX) mg "_law_tree" Tx.s_law_tree ["order"] := by
      unfold JL.Kof
      refine' JL.def_mk KX G ?a ?l ?c ?k (fun _ _ _ _ _ _ us hl => match us, hl with | [_], _ => rfl)
      (case a => k_is); (case l => k_is); (case c => k_is); (case k => k_is)
    have h__law_written : JL.Def (JL.Kof KX) mg "_law_written" Tx.s_law_written ["tree"] := by
      unfold JL.Kof
      refine' JL.def_mk KX G ?a ?l ?c ?k (fun _ _ _ _ _ _ us hl => match us, hl with | [_], _ => rfl)
      (case a => k_is); (case l => k_is); (case c => k_is); (case k => k_is)
    have h__law_words : JL.Def (JL.Kof KX) mg "_law_words" Tx.s_law_words ["order"] := by
      unfold JL.Kof
      refine' JL.def_mk KX G ?a ?l ?c ?k (fun _ _ _ _ _ _ us hl => match us, hl with | [_], _ => rfl)
      (case a => k_is); (case l => k_is); (case c => k_is); (case k => k_is)
    have h__law_parsed : JL.Def (JL.Kof KX) mg "_law_parsed" Tx.s_law_parsed ["kind", "text"] := by
      unfold JL.Kof
      refine' JL.def_mk KX G ?a ?l ?c ?k (fun _ _ _ _ _ _ us hl => match us, hl with | [_, _], _ => rfl)
      (case a => k_is); (case l => k_is); (case c => k_is); (case k => k_is)
    have h__law_rejected : JL.Def (JL.Kof KX) mg "_law_rejected" Tx.s_law_rejected [] := by
      unfold JL.Kof
      refine' JL.def_mk KX G ?a ?l ?c ?k (fun _ _ _ _ _ _ us hl => match us, hl with | [], _ => rfl)
      (case a => k_is); (case l => k_is); (case c => k_is); (case k => k_is)
    have h_law : JL.Def (JL.Kof KX) mg "law" Tx.s_law ["script"] := by
      unfold JL.Kof
      refine' JL.def_mk KX G ?a ?l ?c ?k (fun _ _ _ _ _ _ us hl => match us, hl with | [_], _ => rfl)
      (case a => k_is); (case l => k_is); (case c => k_is); (case k => k_is)
    have hx1 : ∃ C, JL.ExcT (JL.Kof KX) mg "BadTree" C := by
      unfold JL.Kof
      refine' JL.excT_mk KX G ?xaq28 ?xkq28 ?xxq28 ?xbq28 ?xtq28 ?xhgq28 ?xhkq28 ?xhdq28 ?xhaq28 ?xhnq28 ?xhtq28 ?xhmq28 ?xvq28
      (case xaq28 => k_is)
      all_goals (first | k_is | k_exc | kernel_rfl)
    obtain ⟨a1, x1⟩ := hx1
    have hx2 : ∃ C, JL.ExcT (JL.Kof KX) mg "BadKey" C := by
      unfold JL.Kof
      refine' JL.excT_mk KX G ?xaq29 ?xkq29 ?xxq29 ?xbq29 ?xtq29 ?xhgq29 ?xhkq29 ?xhdq29 ?xhaq29 ?xhnq29 ?xhtq29 ?xhmq29 ?xvq29
      (case xaq29 => k_is)
      all_goals (first | k_is | k_exc | kernel_rfl)
    obtain ⟨a2, x2⟩ := hx2
    have hx3 : ∃ C, JL.ExcT (JL.Kof KX) mg "BadKeys" C := by
      unfold JL.Kof
      refine' JL.excT_mk KX G ?xaq30 ?xkq30 ?xxq30 ?xbq30 ?xtq30 ?xhgq30 ?xhkq30 ?xhdq30 ?xhaq30 ?xhnq30 ?xhtq30 ?xhmq30 ?xvq30
      (case xaq30 => k_is)
      all_goals (first | k_is | k_exc | kernel_rfl)
    obtain ⟨a3, x3⟩ := hx3
    have hx4 : ∃ C, JL.ExcT (JL.Kof KX) mg "BadNumber" C := by
      unfold JL.Kof
      refine' JL.excT_mk KX G ?xaq31 ?xkq31 ?xxq31 ?xbq31 ?xtq31 ?xhgq31 ?xhkq31 ?xhdq31 ?xhaq31 ?xhnq31 ?xhtq31 ?xhmq31 ?xvq31
      (case xaq31 => k_is)
      all_goals (first | k_is | k_exc | kernel_rfl)
    obtain ⟨a4, x4⟩ := hx4
    have hx5 : ∃ C, JL.ExcT (JL.Kof KX) mg "BadValues" C := by
      unfold JL.Kof
      refine' JL.excT_mk KX G ?xaq32 ?xkq32 ?xxq32 ?xbq32 ?xtq32 ?xhgq32 ?xhkq32 ?xhdq32 ?xhaq32 ?xhnq32 ?xhtq32 ?xhmq32 ?xvq32
      (case xaq32 => k_is)
      all_goals (first | k_is | k_exc | kernel_rfl)
    obtain ⟨a5, x5⟩ := hx5
    have hx6 : ∃ C, JL.ExcT (JL.Kof KX) mg "BadText" C := by
      unfold JL.Kof
      refine' JL.excT_mk KX G ?xaq33 ?xkq33 ?xxq33 ?xbq33 ?xtq33 ?xhgq33 ?xhkq33 ?xhdq33 ?xhaq33 ?xhnq33 ?xhtq33 ?xhmq33 ?xvq33
      (case xaq33 => k_is)
      all_goals (first | k_is | k_exc | kernel_rfl)
    obtain ⟨a6, x6⟩ := hx6
    have hx7 : ∃ C, JL.ExcT (JL.Kof KX) mg "NotFound" C := by
      unfold JL.Kof
      refine' JL.excT_mk KX G ?xaq34 ?xkq34 ?xxq34 ?xbq34 ?xtq34 ?xhgq34 ?xhkq34 ?xhdq34 ?xhaq34 ?xhnq34 ?xhtq34 ?xhmq34 ?xvq34
      (case xaq34 => k_is)
      all_goals (first | k_is | k_exc | kernel_rfl)
    obtain ⟨a7, x7⟩ := hx7
    have hx0 : ∃ C : PySem.Addr, mg "TreeError" = some (.ref C) := by
      refine' JL.ex_mk KX G ?xa0q35
      (case xa0q35 => k_is)
    obtain ⟨a0, g0⟩ := hx0
    have k10 : PySem.W.kitOne (JL.Kof KX) (.ref a1) (.ref a0) = some true := by
      have hC := x1.g
      have hD := g0
      revert hC hD
      unfold JL.Kof
      intro hC hD
      refine' JL.kit_mk KX G hC hD ?xaq36 ?xbq36 ?xkq36
      (case xaq36 => k_is); (case xbq36 => k_is); (case xkq36 => first | k_is | kernel_rfl)
    have k11 : PySem.W.kitOne (JL.Kof KX) (.ref a1) (.ref a1) = some true := by
      have hC := x1.g
      have hD := x1.g
      revert hC hD
      unfold JL.Kof
      intro hC hD
      refine' JL.kit_mk KX G hC hD ?xaq37 ?xbq37 ?xkq37
      (case xaq37 => k_is); (case xbq37 => k_is); (case xkq37 => first | k_is | kernel_rfl)
    have k12 : PySem.W.kitOne (JL.Kof KX) (.ref a1) (.ref a2) = some false := by
      have hC := x1.g
      have hD := x2.g
      revert hC hD
      unfold JL.Kof
      intro hC hD
      refine' JL.kit_mk KX G hC hD ?xaq38 ?xbq38 ?xkq38
      (case xaq38 => k_is); (case xbq38 => k_is); (case xkq38 => first | k_is | kernel_rfl)
    have k13 : PySem.W.kitOne (JL.Kof KX) (.ref a1) (.ref a3) = some false := by
      have hC := x1.g
      have hD := x3.g
      revert hC hD
      unfold JL.Kof
      intro hC hD
      refine' JL.kit_mk KX G hC hD ?xaq39 ?xbq39 ?xkq39
      (case xaq39 => k_is); (case xbq39 => k_is); (case xkq39 => first | k_is | kernel_rfl)
    have k14 : PySem.W.kitOne (JL.Kof KX) (.ref a1) (.ref a4) = some false := by
      have hC := x1.g
      have hD := x4.g
      revert hC hD
      unfold JL.Kof
      intro hC hD
      refine' JL.kit_mk KX G hC hD ?xaq40 ?xbq40 ?xkq40
      (case xaq40 => k_is); (case xbq40 => k_is); (case xkq40 => first | k_is | kernel_rfl)
    have k15 : PySem.W.kitOne (JL.Kof KX) (.ref a1) (.ref a5) = some false := by
      have hC := x1.g
      have hD := x5.g
      revert hC hD
      unfold JL.Kof
      intro hC hD
      refine' JL.kit_mk KX G hC hD ?xaq41 ?xbq41 ?xkq41
      (case xaq41 => k_is); (case xbq41 => k_is); (case xkq41 => first | k_is | kernel_rfl)
    have k16 : PySem.W.kitOne (JL.Kof KX) (.ref a1) (.ref a6) = some false := by
      have hC := x1.g
      have hD := x6.g
      revert hC hD
      unfold JL.Kof
      intro hC hD
      refine' JL.kit_mk KX G hC hD ?xaq42 ?xbq42 ?xkq42
      (case xaq42 => k_is); (case xbq42 => k_is); (case xkq42 => first | k_is | kernel_rfl)
    have k17 : PySem.W.kitOne (JL.Kof KX) (.ref a1) (.ref a7) = some false := by
      have hC := x1.g
      have hD := x7.g
      revert hC hD
      unfold JL.Kof
      intro hC hD
      refine' JL.kit_mk KX G hC hD ?xaq43 ?xbq43 ?xkq43
      (case xaq43 => k_is); (case xbq43 => k_is); (case xkq43 => first | k_is | kernel_rfl)
    have e1 : PySem.W.exmOne (JL.Kof KX) (.ref a1) (.ref a0) = some true := by
      have hC := x1.g
      have hD := g0
      revert hC hD
      unfold JL.Kof
      intro hC hD
      refine' JL.exm_mk KX G hC hD ?xaq44 ?xbq44 ?xkq44
      (case xaq44 => k_is); (case xbq44 => k_is); (case xkq44 => first | k_is | kernel_rfl)
    have k20 : PySem.W.kitOne (JL.Kof KX) (.ref a2) (.ref a0) = some true := by
      have hC := x2.g
      have hD := g0
      revert hC hD
      unfold JL.Kof
      intro hC hD
      refine' JL.kit_mk KX G hC hD ?xaq45 ?xbq45 ?xkq45
      (case xaq45 => k_is); (case xbq45 => k_is); (case xkq45 => first | k_is | kernel_rfl)
    have k21 : PySem.W.kitOne (JL.Kof KX) (.ref a2) (.ref a1) = some false := by
      have hC := x2.g
      have hD := x1.g
      revert hC hD
      unfold JL.Kof
      intro hC hD
      refine' JL.kit_mk KX G hC hD ?xaq46 ?xbq46 ?xkq46
      (case xaq46 => k_is); (case xbq46 => k_is); (case xkq46 => first | k_is | kernel_rfl)
    have k22 : PySem.W.kitOne (JL.Kof KX) (.ref a2) (.ref a2) = some true := by
      have hC := x2.g
      have hD := x2.g
      revert hC hD
      unfold JL.Kof
      intro hC hD
      refine' JL.kit_mk KX G hC hD ?xaq47 ?xbq47 ?xkq47
      (case xaq47 => k_is); (case xbq47 => k_is); (case xkq47 => first | k_is | kernel_rfl)
    have k23 : PySem.W.kitOne (JL.Kof KX) (.ref a2) (.ref a3) = some false := by
      have hC := x2.g
      have hD := x3.g
      revert hC hD
      unfold JL.Kof
      intro hC hD
      refine' JL.kit_mk KX G hC hD ?xaq48 ?xbq48 ?xkq48
      (case xaq48 => k_is); (case xbq48 => k_is); (case xkq48 => first | k_is | kernel_rfl)
    have k24 : PySem.W.kitOne (JL.Kof KX) (.ref a2) (.ref a4) = some false := by
      have hC := x2.g
      have hD := x4.g
      revert hC hD
      unfold JL.Kof
      intro hC hD
      refine' JL.kit_mk KX G hC hD ?xaq49 ?xbq49 ?xkq49
      (case xaq49 => k_is); (case xbq49 => k_is); (case xkq49 => first | k_is | kernel_rfl)
    have k25 : PySem.W.kitOne (JL.Kof KX) (.ref a2) (.ref a5) = some false := by
      have hC := x2.g
      have hD := x5.g
      revert hC hD
      unfold JL.Kof
      intro hC hD
      refine' JL.kit_mk KX G hC hD ?xaq50 ?xbq50 ?xkq50
      (case xaq50 => k_is); (case xbq50 => k_is); (case xkq50 => first | k_is | kernel_rfl)
    have k26 : PySem.W.kitOne (JL.Kof KX) (.ref a2) (.ref a6) = some false := by
      have hC := x2.g
      have hD := x6.g
      revert hC hD
      unfold JL.Kof
      intro hC hD
      refine' JL.kit_mk KX G hC hD ?xaq51 ?xbq51 ?xkq51
      (case xaq51 => k_is); (case xbq51 => k_is); (case xkq51 => first | k_is | kernel_rfl)
    have k27 : PySem.W.kitOne (JL.Kof KX) (.ref a2) (.ref a7) = some false := by
      have hC := x2.g
      have hD := x7.g
      revert hC hD
      unfold JL.Kof
      intro hC hD
      refine' JL.kit_mk KX G hC hD ?xaq52 ?xbq52 ?xkq52
      (case xaq52 => k_is); (case xbq52 => k_is); (case xkq52 => first | k_is | kernel_rfl)
    have e2 : PySem.W.exmOne (JL.Kof KX) (.ref a2) (.ref a0) = some true := by
      have hC := x2.g
      have hD := g0
      revert hC hD
      unfold JL.Kof
      intro hC hD
      refine' JL.exm_mk KX G hC hD ?xaq53 ?xbq53 ?xkq53
      (case xaq53 => k_is); (case xbq53 => k_is); (case xkq53 => first | k_is | kernel_rfl)
    have k30 : PySem.W.kitOne (JL.Kof KX) (.ref a3) (.ref a0) = some true := by
      have hC := x3.g
      have hD := g0
      revert hC hD
      unfold JL.Kof
      intro hC hD
      refine' JL.kit_mk KX G hC hD ?xaq54 ?xbq54 ?xkq54
      (case xaq54 => k_is); (case xbq54 => k_is); (case xkq54 => first | k_is | kernel_rfl)
    have k31 : PySem.W.kitOne (JL.Kof KX) (.ref a3) (.ref a1) = some false := by
      have hC := x3.g
      have hD := x1.g
      revert hC hD
      unfold JL.Kof
      intro hC hD
      refine' JL.kit_mk KX G hC hD ?xaq55 ?xbq55 ?xkq55
      (case xaq55 => k_is); (case xbq55 => k_is); (case xkq55 => first | k_is | kernel_rfl)
    have k32 : PySem.W.kitOne (JL.Kof KX) (.ref a3) (.ref a2) = some false := by
      have hC := x3.g
      have hD := x2.g
      revert hC hD
      unfold JL.Kof
      intro hC hD
      refine' JL.kit_mk KX G hC hD ?xaq56 ?xbq56 ?xkq56
      (case xaq56 => k_is); (case xbq56 => k_is); (case xkq56 => first | k_is | kernel_rfl)
    have k33 : PySem.W.kitOne (JL.Kof KX) (.ref a3) (.ref a3) = some true := by
      have hC := x3.g
      have hD := x3.g
      revert hC hD
      unfold JL.Kof
      intro hC hD
      refine' JL.kit_mk KX G hC hD ?xaq57 ?xbq57 ?xkq57
      (case xaq57 => k_is); (case xbq57 => k_is); (case xkq57 => first | k_is | kernel_rfl)
    have k34 : PySem.W.kitOne (JL.Kof KX) (.ref a3) (.ref a4) = some false := by
      have hC := x3.g
      have hD := x4.g
      revert hC hD
      unfold JL.Kof
      intro hC hD
      refine' JL.kit_mk KX G hC hD ?xaq58 ?xbq58 ?xkq58
      (case xaq58 => k_is); (case xbq58 => k_is); (case xkq58 => first | k_is | kernel_rfl)
    have k35 : PySem.W.kitOne (JL.Kof KX) (.ref a3) (.ref a5) = some false := by
      have hC := x3.g
      have hD := x5.g
      revert hC hD
      unfold JL.Kof
      intro hC hD
      refine' JL.kit_mk KX G hC hD ?xaq59 ?xbq59 ?xkq59
      (case xaq59 => k_is); (case xbq59 => k_is); (case xkq59 => first | k_is | kernel_rfl)
    have k36 : PySem.W.kitOne (JL.Kof KX) (.ref a3) (.ref a6) = some false := by
      have hC := x3.g
      have hD := x6.g
      revert hC hD
      unfold JL.Kof
      intro hC hD
      refine' JL.kit_mk KX G hC hD ?xaq60 ?xbq60 ?xkq60
      (case xaq60 => k_is); (case xbq60 => k_is); (case xkq60 => first | k_is | kernel_rfl)
    have k37 : PySem.W.kitOne (JL.Kof KX) (.ref a3) (.ref a7) = some false := by
      have hC := x3.g
      have hD := x7.g
      revert hC hD
      unfold JL.Kof
      intro hC hD
      refine' JL.kit_mk KX G hC hD ?xaq61 ?xbq61 ?xkq61
      (case xaq61 => k_is); (case xbq61 => k_is); (case xkq61 => first | k_is | kernel_rfl)
    have e3 : PySem.W.exmOne (JL.Kof KX) (.ref a3) (.ref a0) = some true := by
      have hC := x3.g
      have hD := g0
      revert hC hD
      unfold JL.Kof
      intro hC hD
      refine' JL.exm_mk KX G hC hD ?xaq62 ?xbq62 ?xkq62
      (case xaq62 => k_is); (case xbq62 => k_is); (case xkq62 => first | k_is | kernel_rfl)
    have k40 : PySem.W.kitOne (JL.Kof KX) (.ref a4) (.ref a0) = some true := by
      have hC := x4.g
      have hD := g0
      revert hC hD
      unfold JL.Kof
      intro hC hD
      refine' JL.kit_mk KX G hC hD ?xaq63 ?xbq63 ?xkq63
      (case xaq63 => k_is); (case xbq63 => k_is); (case xkq63 => first | k_is | kernel_rfl)
    have k41 : PySem.W.kitOne (JL.Kof KX) (.ref a4) (.ref a1) = some false := by
      have hC := x4.g
      have hD := x1.g
      revert hC hD
      unfold JL.Kof
      intro hC hD
      refine' JL.kit_mk KX G hC hD ?xaq64 ?xbq64 ?xkq64
      (case xaq64 => k_is); (case xbq64 => k_is); (case xkq64 => first | k_is | kernel_rfl)
    have k42 : PySem.W.kitOne (JL.Kof KX) (.ref a4) (.ref a2) = some false := by
      have hC := x4.g
      have hD := x2.g
      revert hC hD
      unfold JL.Kof
      intro hC hD
      refine' JL.kit_mk KX G hC hD ?xaq65 ?xbq65 ?xkq65
      (case xaq65 => k_is); (case xbq65 => k_is); (case xkq65 => first | k_is | kernel_rfl)
    have k43 : PySem.W.kitOne (JL.Kof KX) (.ref a4) (.ref a3) = some false := by
      have hC := x4.g
      have hD := x3.g
      revert hC hD
      unfold JL.Kof
      intro hC hD
      refine' JL.kit_mk KX G hC hD ?xaq66 ?xbq66 ?xkq66
      (case xaq66 => k_is); (case xbq66 => k_is); (case xkq66 => first | k_is | kernel_rfl)
    have k44 : PySem.W.kitOne (JL.Kof KX) (.ref a4) (.ref a4) = some true := by
      have hC := x4.g
      have hD := x4.g
      revert hC hD
      unfold JL.Kof
      intro hC hD
      refine' JL.kit_mk KX G hC hD ?xaq67 ?xbq67 ?xkq67
      (case xaq67 => k_is); (case xbq67 => k_is); (case xkq67 => first | k_is | kernel_rfl)
    have k45 : PySem.W.kitOne (JL.Kof KX) (.ref a4) (.ref a5) = some false := by
      have hC := x4.g
      have hD := x5.g
      revert hC hD
      unfold JL.Kof
      intro hC hD
      refine' JL.kit_mk KX G hC hD ?xaq68 ?xbq68 ?xkq68
      (case xaq68 => k_is); (case xbq68 => k_is); (case xkq68 => first | k_is | kernel_rfl)
    have k46 : PySem.W.kitOne (JL.Kof KX) (.ref a4) (.ref a6) = some false := by
      have hC := x4.g
      have hD := x6.g
      revert hC hD
      unfold JL.Kof
      intro hC hD
      refine' JL.kit_mk KX G hC hD ?xaq69 ?xbq69 ?xkq69
      (case xaq69 => k_is); (case xbq69 => k_is); (case xkq69 => first | k_is | kernel_rfl)
    have k47 : PySem.W.kitOne (JL.Kof KX) (.ref a4) (.ref a7) = some false := by
      have hC := x4.g
      have hD := x7.g
      revert hC hD
      unfold JL.Kof
      intro hC hD
      refine' JL.kit_mk KX G hC hD ?xaq70 ?xbq70 ?xkq70
      (case xaq70 => k_is); (case xbq70 => k_is); (case xkq70 => first | k_is | kernel_rfl)
    have e4 : PySem.W.exmOne (JL.Kof KX) (.ref a4) (.ref a0) = some true := by
      have hC := x4.g
      have hD := g0
      revert hC hD
      unfold JL.Kof
      intro hC hD
      refine' JL.exm_mk KX G hC hD ?xaq71 ?xbq71 ?xkq71
      (case xaq71 => k_is); (case xbq71 => k_is); (case xkq71 => first | k_is | kernel_rfl)
    have k50 : PySem.W.kitOne (JL.Kof KX) (.ref a5) (.ref a0) = some true := by
      have hC := x5.g
      have hD := g0
      revert hC hD
      unfold JL.Kof
      intro hC hD
      refine' JL.kit_mk KX G hC hD ?xaq72 ?xbq72 ?xkq72
      (case xaq72 => k_is); (case xbq72 => k_is); (case xkq72 => first | k_is | kernel_rfl)
    have k51 : PySem.W.kitOne (JL.Kof KX) (.ref a5) (.ref a1) = some false := by
      have hC := x5.g
      have hD := x1.g
      revert hC hD
      unfold JL.Kof
      intro hC hD
      refine' JL.kit_mk KX G hC hD ?xaq73 ?xbq73 ?xkq73
      (case xaq73 => k_is); (case xbq73 => k_is); (case xkq73 => first | k_is | kernel_rfl)
    have k52 : PySem.W.kitOne (JL.Kof KX) (.ref a5) (.ref a2) = some false := by
      have hC := x5.g
      have hD := x2.g
      revert hC hD
      unfold JL.Kof
      intro hC hD
      refine' JL.kit_mk KX G hC hD ?xaq74 ?xbq74 ?xkq74
      (case xaq74 => k_is); (case xbq74 => k_is); (case xkq74 => first | k_is | kernel_rfl)
    have k53 : PySem.W.kitOne (JL.Kof KX) (.ref a5) (.ref a3) = some false := by
      have hC := x5.g
      have hD := x3.g
      revert hC hD
      unfold JL.Kof
      intro hC hD
      refine' JL.kit_mk KX G hC hD ?xaq75 ?xbq75 ?xkq75
      (case xaq75 => k_is); (case xbq75 => k_is); (case xkq75 => first | k_is | kernel_rfl)
    have k54 : PySem.W.kitOne (JL.Kof KX) (.ref a5) (.ref a4) = some false := by
      have hC := x5.g
      have hD := x4.g
      revert hC hD
      unfold JL.Kof
      intro hC hD
      refine' JL.kit_mk KX G hC hD ?xaq76 ?xbq76 ?xkq76
      (case xaq76 => k_is); (case xbq76 => k_is); (case xkq76 => first | k_is | kernel_rfl)
    have k55 : PySem.W.kitOne (JL.Kof KX) (.ref a5) (.ref a5) = some true := by
      have hC := x5.g
      have hD := x5.g
      revert hC hD
      unfold JL.Kof
      intro hC hD
      refine' JL.kit_mk KX G hC hD ?xaq77 ?xbq77 ?xkq77
      (case xaq77 => k_is); (case xbq77 => k_is); (case xkq77 => first | k_is | kernel_rfl)
    have k56 : PySem.W.kitOne (JL.Kof KX) (.ref a5) (.ref a6) = some false := by
      have hC := x5.g
      have hD := x6.g
      revert hC hD
      unfold JL.Kof
      intro hC hD
      refine' JL.kit_mk KX G hC hD ?xaq78 ?xbq78 ?xkq78
      (case xaq78 => k_is); (case xbq78 => k_is); (case xkq78 => first | k_is | kernel_rfl)
    have k57 : PySem.W.kitOne (JL.Kof KX) (.ref a5) (.ref a7) = some false := by
      have hC := x5.g
      have hD := x7.g
      revert hC hD
      unfold JL.Kof
      intro hC hD
      refine' JL.kit_mk KX G hC hD ?xaq79 ?xbq79 ?xkq79
      (case xaq79 => k_is); (case xbq79 => k_is); (case xkq79 => first | k_is | kernel_rfl)
    have e5 : PySem.W.exmOne (JL.Kof KX) (.ref a5) (.ref a0) = some true := by
      have hC := x5.g
      have hD := g0
      revert hC hD
      unfold JL.Kof
      intro hC hD
      refine' JL.exm_mk KX G hC hD ?xaq80 ?xbq80 ?xkq80
      (case xaq80 => k_is); (case xbq80 => k_is); (case xkq80 => first | k_is | kernel_rfl)
    have k60 : PySem.W.kitOne (JL.Kof KX) (.ref a6) (.ref a0) = some true := by
      have hC := x6.g
      have hD := g0
      revert hC hD
      unfold JL.Kof
      intro hC hD
      refine' JL.kit_mk KX G hC hD ?xaq81 ?xbq81 ?xkq81
      (case xaq81 => k_is); (case xbq81 => k_is); (case xkq81 => first | k_is | kernel_rfl)
    have k61 : PySem.W.kitOne (JL.Kof KX) (.ref a6) (.ref a1) = some false := by
      have hC := x6.g
      have hD := x1.g
      revert hC hD
      unfold JL.Kof
      intro hC hD
      refine' JL.kit_mk KX G hC hD ?xaq82 ?xbq82 ?xkq82
      (case xaq82 => k_is); (case xbq82 => k_is); (case xkq82 => first | k_is | kernel_rfl)
    have k62 : PySem.W.kitOne (JL.Kof KX) (.ref a6) (.ref a2) = some false := by
      have hC := x6.g
      have hD := x2.g
      revert hC hD
      unfold JL.Kof
      intro hC hD
      refine' JL.kit_mk KX G hC hD ?xaq83 ?xbq83 ?xkq83
      (case xaq83 => k_is); (case xbq83 => k_is); (case xkq83 => first | k_is | kernel_rfl)
    have k63 : PySem.W.kitOne (JL.Kof KX) (.ref a6) (.ref a3) = some false := by
      have hC := x6.g
      have hD := x3.g
      revert hC hD
      unfold JL.Kof
      intro hC hD
      refine' JL.kit_mk KX G hC hD ?xaq84 ?xbq84 ?xkq84
      (case xaq84 => k_is); (case xbq84 => k_is); (case xkq84 => first | k_is | kernel_rfl)
    have k64 : PySem.W.kitOne (JL.Kof KX) (.ref a6) (.ref a4) = some false := by
      have hC := x6.g
      have hD := x4.g
      revert hC hD
      unfold JL.Kof
      intro hC hD
      refine' JL.kit_mk KX G hC hD ?xaq85 ?xbq85 ?xkq85
      (case xaq85 => k_is); (case xbq85 => k_is); (case xkq85 => first | k_is | kernel_rfl)
    have k65 : PySem.W.kitOne (JL.Kof KX) (.ref a6) (.ref a5) = some false := by
      have hC := x6.g
      have hD := x5.g
      revert hC hD
      unfold JL.Kof
      intro hC hD
      refine' JL.kit_mk KX G hC hD ?xaq86 ?xbq86 ?xkq86
      (case xaq86 => k_is); (case xbq86 => k_is); (case xkq86 => first | k_is | kernel_rfl)
    have k66 : PySem.W.kitOne (JL.Kof KX) (.ref a6) (.ref a6) = some true := by
      have hC := x6.g
      have hD := x6.g
      revert hC hD
      unfold JL.Kof
      intro hC hD
      refine' JL.kit_mk KX G hC hD ?xaq87 ?xbq87 ?xkq87
      (case xaq87 => k_is); (case xbq87 => k_is); (case xkq87 => first | k_is | kernel_rfl)
    have k67 : PySem.W.kitOne (JL.Kof KX) (.ref a6) (.ref a7) = some false := by
      have hC := x6.g
      have hD := x7.g
      revert hC hD
      unfold JL.Kof
      intro hC hD
      refine' JL.kit_mk KX G hC hD ?xaq88 ?xbq88 ?xkq88
      (case xaq88 => k_is); (case xbq88 => k_is); (case xkq88 => first | k_is | kernel_rfl)
    have e6 : PySem.W.exmOne (JL.Kof KX) (.ref a6) (.ref a0) = some true := by
      have hC := x6.g
      have hD := g0
      revert hC hD
      unfold JL.Kof
      intro hC hD
      refine' JL.exm_mk KX G hC hD ?xaq89 ?xbq89 ?xkq89
      (case xaq89 => k_is); (case xbq89 => k_is); (case xkq89 => first | k_is | kernel_rfl)
    have k70 : PySem.W.kitOne (JL.Kof KX) (.ref a7) (.ref a0) = some true := by
      have hC := x7.g
      have hD := g0
      revert hC hD
      unfold JL.Kof
      intro hC hD
      refine' JL.kit_mk KX G hC hD ?xaq90 ?xbq90 ?xkq90
      (case xaq90 => k_is); (case xbq90 => k_is); (case xkq90 => first | k_is | kernel_rfl)
    have k71 : PySem.W.kitOne (JL.Kof KX) (.ref a7) (.ref a1) = some false := by
      have hC := x7.g
      have hD := x1.g
      revert hC hD
      unfold JL.Kof
      intro hC hD
      refine' JL.kit_mk KX G hC hD ?xaq91 ?xbq91 ?xkq91
      (case xaq91 => k_is); (case xbq91 => k_is); (case xkq91 => first | k_is | kernel_rfl)
    have k72 : PySem.W.kitOne (JL.Kof KX) (.ref a7) (.ref a2) = some false := by
      have hC := x7.g
      have hD := x2.g
      revert hC hD
      unfold JL.Kof
      intro hC hD
      refine' JL.kit_mk KX G hC hD ?xaq92 ?xbq92 ?xkq92
      (case xaq92 => k_is); (case xbq92 => k_is); (case xkq92 => first | k_is | kernel_rfl)
    have k73 : PySem.W.kitOne (JL.Kof KX) (.ref a7) (.ref a3) = some false := by
      have hC := x7.g
      have hD := x3.g
      revert hC hD
      unfold JL.Kof
      intro hC hD
      refine' JL.kit_mk KX G hC hD ?xaq93 ?xbq93 ?xkq93
      (case xaq93 => k_is); (case xbq93 => k_is); (case xkq93 => first | k_is | kernel_rfl)
    have k74 : PySem.W.kitOne (JL.Kof KX) (.ref a7) (.ref a4) = some false := by
      have hC := x7.g
      have hD := x4.g
      revert hC hD
      unfold JL.Kof
      intro hC hD
      refine' JL.kit_mk KX G hC hD ?xaq94 ?xbq94 ?xkq94
      (case xaq94 => k_is); (case xbq94 => k_is); (case xkq94 => first | k_is | kernel_rfl)
    have k75 : PySem.W.kitOne (JL.Kof KX) (.ref a7) (.ref a5) = some false := by
      have hC := x7.g
      have hD := x5.g
      revert hC hD
      unfold JL.Kof
      intro hC hD
      refine' JL.kit_mk KX G hC hD ?xaq95 ?xbq95 ?xkq95
      (case xaq95 => k_is); (case xbq95 => k_is); (case xkq95 => first | k_is | kernel_rfl)
    have k76 : PySem.W.kitOne (JL.Kof KX) (.ref a7) (.ref a6) = some false := by
      have hC := x7.g
      have hD := x6.g
      revert hC hD
      unfold JL.Kof
      intro hC hD
      refine' JL.kit_mk KX G hC hD ?xaq96 ?xbq96 ?xkq96
      (case xaq96 => k_is); (case xbq96 => k_is); (case xkq96 => first | k_is | kernel_rfl)
    have k77 : PySem.W.kitOne (JL.Kof KX) (.ref a7) (.ref a7) = some true := by
      have hC := x7.g
      have hD := x7.g
      revert hC hD
      unfold JL.Kof
      intro hC hD
      refine' JL.kit_mk KX G hC hD ?xaq97 ?xbq97 ?xkq97
      (case xaq97 => k_is); (case xbq97 => k_is); (case xkq97 => first | k_is | kernel_rfl)
    have e7 : PySem.W.exmOne (JL.Kof KX) (.ref a7) (.ref a0) = some true := by
      have hC := x7.g
      have hD := g0
      revert hC hD
      unfold JL.Kof
      intro hC hD
      refine' JL.exm_mk KX G hC hD ?xaq98 ?xbq98 ?xkq98
      (case xaq98 => k_is); (case xbq98 => k_is); (case xkq98 => first | k_is | kernel_rfl)
    have z_ValueError : mg "ValueError" = none := PySem.W.mg_none_of KX G (by k_is)
    have z_all : mg "all" = none := PySem.W.mg_none_of KX G (by k_is)
    have z_bool : mg "bool" = none := PySem.W.mg_none_of KX G (by k_is)
    have z_int : mg "int" = none := PySem.W.mg_none_of KX G (by k_is)
    have z_isinstance : mg "isinstance" = none := PySem.W.mg_none_of KX G (by k_is)
    have z_len : mg "len" = none := PySem.W.mg_none_of KX G (by k_is)
    have z_list : mg "list" = none := PySem.W.mg_none_of KX G (by k_is)
    have z_range : mg "range" = none := PySem.W.mg_none_of KX G (by k_is)
    have z_sorted : mg "sorted" = none := PySem.W.mg_none_of KX G (by k_is)
    have z_str : mg "str" = none := PySem.W.mg_none_of KX G (by k_is)
    have z_tuple : mg "tuple" = none := PySem.W.mg_none_of KX G (by k_is)
    have c_MOST_KEY : ∃ t, mg "MOST_KEY" = some (.int 99 t) := ⟨_, PySem.W.mg_of KX G (by k_is)⟩
    have c_MOST_KEYS : ∃ t, mg "MOST_KEYS" = some (.int 9 t) := ⟨_, PySem.W.mg_of KX G (by k_is)⟩
    have c_DIGITS : ∃ t, mg "DIGITS" = some (.str "0123456789" t) := ⟨_, PySem.W.mg_of KX G (by k_is)⟩
    have er := JL.errs_mk (K := JL.Kof KX) (mg := mg) 0 0 g0 x1 x2 x3 x4 x5 x6 x7 k10 k11 k12 k13 k14 k15 k16 k17 k20 k21 k22 k23 k24 k25 k26 k27 k30 k31 k32 k33 k34 k35 k36 k37 k40 k41 k42 k43 k44 k45 k46 k47 k50 k51 k52 k53 k54 k55 k56 k57 k60 k61 k62 k63 k64 k65 k66 k67 k70 k71 k72 k73 k74 k75 k76 k77 e1 e2 e3 e4 e5 e6 e7
    obtain ⟨T⟩ := Tx.txt_mk er h_is_int h_is_key h_is_order h_check_order h_is_part h_is_tree h_check_tree h_written h_format_tree h_read_number h_expect h_read_tree h_parse_tree h_format_order h_parse_order h__law_start h__law_draw h__law_pick h__law_error h__law_order h__law_leaf h__law_tree h__law_written h__law_words h__law_parsed h__law_rejected h_law z_ValueError z_all z_bool z_int z_isinstance z_len z_list z_range z_sorted z_str z_tuple c_MOST_KEY c_MOST_KEYS c_DIGITS 
    have ea := hmg.symm.trans T.g_law
    cases ea
    exact ⟨T.d_law, fun s v => JL.binds_law T.e_law s v, fun base _ _ => Tx.ok_law T Tx.law_runs⟩
