import PyProof.Rows.All
import Wide.All
import OpenK.AllK
import Wide.FinOn
import HandS.ForMost
import HandS.ForExc
import HandS.Flow
import HandS.Walk
import HandS.Zip
import HandS.Conv
import HandS.Deep
import HandS.DictComp
import HandS.SetKeys
import HandS.SetBool
import HandS.Small
import HandS.Strs
import HandS.SortInts
import HandS.Wide
import HandS.TryOnly
import HandS.TupMul
import HandS.TupAny
import HandS.DictTup
import KE.KDictKeyed
import KE.KDictDisplayH
import KE.SortData
import KE.GoesEnum
import KE.GoesDict
import PySem.Challenge.RW_pactloom_k45_whole_strangers_beside_one
import KE.KEqSeq
import HandS.WideBits
import HandS.More
set_option Elab.async false
set_option linter.all false
set_option maxRecDepth 100000
set_option maxHeartbeats 8000000
namespace PL
open PySem PySem.Spec PyProof.Rows L2
/-! the text by places -/
def topS (i : Nat) : Stmt := PySem.Challenge.pw_pactloom_k45_whole_strangers_beside_one.main.body.getD i (.Pass ⟨0, 0, 0, 0⟩)

/-! data as it stands in the heap -/
abbrev Act := Str × Str × Str
def actV (a : Act) : List V := [.str a.1, .str a.2.1, .str a.2.2]
def actK (a : Act) : List L2.Key := [.inr a.1, .inr a.2.1, .inr a.2.2]
theorem actK_V (a : Act) : (actK a).map kV = actV a := rfl
abbrev Rl (α : Type) := Hp → V → α → Prop
def Mono {α : Type} (R : Rl α) : Prop := ∀ (H H' : Hp) (v : V) (a : α), Same H H' → R H v a → R H' v a
def RAct : Rl Act := fun H v a => ∃ p, v = .ref p ∧ H p = some (.tup (actV a))
def RNat : Rl Nat := fun _ v n => v = .int (n : Int)
def RBl : Rl Bool := fun _ v b => v = .bl b
def RStr : Rl Str := fun _ v s => v = .str s
def RTup {α : Type} (R : Rl α) : Rl (List α) := fun H v xs => ∃ p vs, v = .ref p ∧ H p = some (.tup vs) ∧ Paired (R H) vs xs
def RLst {α : Type} (R : Rl α) : Rl (List α) := fun H v xs => ∃ p vs, v = .ref p ∧ H p = some (.lst vs) ∧ Paired (R H) vs xs
def RPr {α β : Type} (R : Rl α) (S : Rl β) : Rl (α × β) := fun H v x => ∃ p a b, v = .ref p ∧ H p = some (.tup [a, b]) ∧ R H a x.1 ∧ S H b x.2
section
variable {α β : Type} {R : Rl α} {S : Rl β}
theorem pmono {F G : V → α → Prop} {l : List V} {m : List α} (h : Paired F l m) (f : ∀ a b, F a b → G a b) : Paired G l m := Paired.mapP h f
theorem RAct.mono : Mono RAct := fun _ _ _ _ s ⟨p, e, h⟩ => ⟨p, e, s _ _ h⟩
theorem RNat.mono : Mono RNat := fun _ _ _ _ _ h => h
theorem RBl.mono : Mono RBl := fun _ _ _ _ _ h => h
theorem RStr.mono : Mono RStr := fun _ _ _ _ _ h => h
theorem RTup.mono (r : Mono R) : Mono (RTup R) := fun _ _ _ _ s ⟨p, vs, e, h, q⟩ => ⟨p, vs, e, s _ _ h, pmono q fun _ _ z => r _ _ _ _ s z⟩
theorem RLst.mono (r : Mono R) : Mono (RLst R) := fun _ _ _ _ s ⟨p, vs, e, h, q⟩ => ⟨p, vs, e, s _ _ h, pmono q fun _ _ z => r _ _ _ _ s z⟩
theorem RPr.mono (r : Mono R) (t : Mono S) : Mono (RPr R S) := fun _ _ _ _ s ⟨p, a, b, e, h, q1, q2⟩ => ⟨p, a, b, e, s _ _ h, r _ _ _ _ s q1, t _ _ _ _ s q2⟩
end
theorem same_upd {H : Hp} {p : Addr} {o : HO} (h : H p = none) : Same H (upd H p o) := fun b x e => by
  rw [upd_ne (ne_of_none e h)]
  exact e
/-- a new object that changes is new still -/
theorem same_re {H H' : Hp} {p : Addr} {o : HO} (s : Same H H') (h : H p = none) : Same H (upd H' p o) := fun b x e => by
  rw [upd_ne (ne_of_none e h)]
  exact s b x e
section
variable {α β γ : Type} {F : α → β → Prop}
theorem pget {l : List α} {m : List β} (h : Paired F l m) : ∀ {i : Nat} {x : α}, l[i]? = some x → ∃ y, m[i]? = some y ∧ F x y := by
  induction h with
  | nil => intro i x e; cases e
  | cons r _ ih =>
    intro i x e
    cases i with
    | zero => exact ⟨_, rfl, Option.some.inj e ▸ r⟩
    | succ i => exact ih (i := i) e
theorem pget' {l : List α} {m : List β} (h : Paired F l m) : ∀ {i : Nat} {y : β}, m[i]? = some y → ∃ x, l[i]? = some x ∧ F x y := by
  induction h with
  | nil => intro i y e; cases e
  | cons r _ ih =>
    intro i y e
    cases i with
    | zero => exact ⟨_, rfl, Option.some.inj e ▸ r⟩
    | succ i => exact ih (i := i) e
theorem plen : ∀ {l : List α} {m : List β}, Paired F l m → l.length = m.length
  | _, _, .nil => rfl
  | _, _, .cons _ t => by rw [List.length_cons, List.length_cons, plen t]
theorem pmem : ∀ {l : List α} {m : List β} {x : α}, Paired F l m → x ∈ l → ∃ y ∈ m, F x y
  | _, _, x, h, e => by
    obtain ⟨i, hi, rfl⟩ := List.getElem_of_mem e
    obtain ⟨y, h1, h2⟩ := pget h (List.getElem?_eq_getElem hi)
    exact ⟨y, List.mem_of_getElem? h1, h2⟩
theorem pmem' : ∀ {l : List α} {m : List β} {y : β}, Paired F l m → y ∈ m → ∃ x ∈ l, F x y
  | _, _, x, h, e => by
    obtain ⟨i, hi, rfl⟩ := List.getElem_of_mem e
    obtain ⟨y, h1, h2⟩ := pget' h (List.getElem?_eq_getElem hi)
    exact ⟨y, List.mem_of_getElem? h1, h2⟩
theorem psnoc : ∀ {l : List α} {m : List β} {x : α} {y : β}, Paired F l m → F x y → Paired F (l ++ [x]) (m ++ [y]) := Paired.snoc
theorem papp : ∀ {l l' : List α} {m m' : List β}, Paired F l m → Paired F l' m' → Paired F (l ++ l') (m ++ m')
  | _, _, _, _, .nil, h => h
  | _, _, _, _, .cons r t, h => .cons r (papp t h)
theorem pset : ∀ {l : List α} {m : List β} {i : Nat} {x : α} {y : β}, Paired F l m → F x y → Paired F (l.set i x) (m.set i y)
  | _, _, _, _, _, .nil, _ => .nil
  | _, _, 0, _, _, .cons _ t, h => .cons h t
  | _, _, i + 1, _, _, .cons r t, h => .cons r (pset t h)
theorem pmap {f : γ → α} {g : γ → β} : ∀ {l : List γ}, (∀ x ∈ l, F (f x) (g x)) → Paired F (l.map f) (l.map g)
  | [], _ => .nil
  | x :: xs, h => .cons (h x List.mem_cons_self) (pmap fun y hy => h y (List.mem_cons_of_mem _ hy))
theorem pmapl {f : γ → α} {G : γ → β → Prop} : ∀ {l : List γ} {m : List β}, Paired G l m → (∀ x y, G x y → F (f x) y) → Paired F (l.map f) m
  | _, _, .nil, _ => .nil
  | _, _, .cons r t, h => .cons (h _ _ r) (pmapl t h)
end
theorem pnat {H : Hp} : ∀ {vs : List V} {ns : List Nat}, Paired (RNat H) vs ns → vs = (ns.map fun n : Nat => V.int (n : Int))
  | _, _, .nil => rfl
  | _, _, .cons r t => by
    cases (show _ = V.int _ from r)
    rw [List.map_cons, ← pnat t]
theorem natp {H : Hp} : ∀ {ns : List Nat}, Paired (RNat H) (ns.map fun n : Nat => V.int (n : Int)) ns
  | [] => .nil
  | n :: ns => .cons rfl natp
theorem pbl {H : Hp} : ∀ {vs : List V} {bs : List Bool}, Paired (RBl H) vs bs → vs = bs.map V.bl
  | _, _, .nil => rfl
  | _, _, .cons r t => by
    cases (show _ = V.bl _ from r)
    rw [List.map_cons, ← pbl t]
theorem blp {H : Hp} : ∀ {bs : List Bool}, Paired (RBl H) (bs.map V.bl) bs
  | [] => .nil
  | n :: ns => .cons rfl blp
theorem pstr {H : Hp} : ∀ {vs : List V} {bs : List Str}, Paired (RStr H) vs bs → vs = bs.map V.str
  | _, _, .nil => rfl
  | _, _, .cons r t => by
    cases (show _ = V.str _ from r)
    rw [List.map_cons, ← pstr t]
theorem strp {H : Hp} : ∀ {bs : List Str}, Paired (RStr H) (bs.map V.str) bs
  | [] => .nil
  | n :: ns => .cons rfl strp

/-! tables -/
structure Tbl where
  rows : List (List (Act × Nat))
  ends : List Bool
abbrev RRow : Rl (List (Act × Nat)) := RTup (RPr RAct RNat)
def RTbl : Rl Tbl := fun H v T => ∃ p vr ve, v = .ref p ∧ H p = some (.tup [.str "table", vr, ve]) ∧ RTup RRow H vr T.rows ∧ RTup RBl H ve T.ends
theorem RRow.mono : Mono RRow := RTup.mono (RPr.mono RAct.mono RNat.mono)
theorem RTbl.mono : Mono RTbl := fun _ _ _ _ s ⟨p, vr, ve, e, h, q1, q2⟩ => ⟨p, vr, ve, e, s _ _ h, RTup.mono RRow.mono _ _ _ _ s q1, RTup.mono RBl.mono _ _ _ _ s q2⟩
/-- the first pair of a row with this action -/
def look : List (Act × Nat) → Act → Option Nat
  | [], _ => none
  | p :: r, a => if p.1 = a then some p.2 else look r a
def Tbl.next (T : Tbl) (s : Nat) (a : Act) : Option Nat := look (T.rows.getD s []) a

/-! keys as nested data -/
mutual
inductive NR (H : Hp) : NestedKey → V → Prop
  | none : NR H .none .non
  | bool {b i} : i = (if b = true then 1 else 0) → NR H (.num i) (.bl b)
  | int (i) : NR H (.num i) (.int i)
  | text (x) : NR H (.text x) (.str x)
  | tup {a vs ks} : H a = some (.tup vs) → NRs H ks vs → NR H (.tup ks) (.ref a)
inductive NRs (H : Hp) : List NestedKey → List V → Prop
  | nil : NRs H [] []
  | cons {k v ks vs} : NR H k v → NRs H ks vs → NRs H (k :: ks) (v :: vs)
end
mutual
theorem NR.mono {H H' : Hp} (s : Same H H') : ∀ (k : NestedKey) (v : V), NR H k v → NR H' k v
  | _, _, .none => .none
  | _, _, .bool e => .bool e
  | _, _, .int i => .int i
  | _, _, .text x => .text x
  | _, _, .tup h r => .tup (s _ _ h) (NRs.mono s _ _ r)
theorem NRs.mono {H H' : Hp} (s : Same H H') : ∀ (ks : List NestedKey) (vs : List V), NRs H ks vs → NRs H' ks vs
  | _, _, .nil => .nil
  | _, _, .cons h r => .cons (NR.mono s _ _ h) (NRs.mono s _ _ r)
end
mutual
theorem NR.is {P : Program} {w : World} {H : Hp} {h : Heap} (ok : HOk P w H h) : ∀ (k : NestedKey) (v : V) (u : Value), NR H k v → RelV v u → NestedIs h k u
  | _, _, u, .none, r => by
    cases (show u = Value.none from r)
    exact .none
  | _, _, u, .bool e, r => by
    rename_i b i
    cases (show u = Value.bool b from r)
    exact .bool e
  | _, _, u, .int i, r => by
    obtain ⟨t, e⟩ := (show ∃ t, u = Value.int i t from r)
    subst e
    exact .int i t
  | _, _, u, .text x, r => by
    obtain ⟨t, e⟩ := (show ∃ t, u = Value.str x t from r)
    subst e
    exact .text x t
  | _, _, u, .tup hq rs, r => by
    rename_i a vs ks
    cases (show u = Value.ref a from r)
    obtain ⟨_, its, rv, o, h1, h2, n, h3⟩ := (show ObjOk P w H h a (.tup vs) from ok a _ hq)
    exact .tup h1 h2 h3 (NRs.is ok ks vs _ rs (by simpa using rv))
theorem NRs.is {P : Program} {w : World} {H : Hp} {h : Heap} (ok : HOk P w H h) : ∀ (ks : List NestedKey) (vs : List V) (us : List Value), NRs H ks vs → Vals vs us → NestedAll h ks us
  | _, _, _, .nil, r => by
    cases r
    exact .nil
  | _, _, _, .cons h r, rv => by
    cases rv with
    | cons a b => exact .cons (NR.is ok _ _ _ h a) (NRs.is ok _ _ _ r b)
end
def actN (a : Act) : NestedKey := .tup [.text a.1, .text a.2.1, .text a.2.2]
theorem actN_inj {a b : Act} (h : actN a = actN b) : a = b := by
  obtain ⟨a1, a2, a3⟩ := a
  obtain ⟨b1, b2, b3⟩ := b
  simp only [actN, NestedKey.tup.injEq, List.cons.injEq, NestedKey.text.injEq, and_true] at h
  obtain ⟨h1, h2, h3⟩ := h
  rw [h1, h2, h3]
theorem RAct.nr {H : Hp} {v : V} {a : Act} (h : RAct H v a) : NR H (actN a) v := by
  obtain ⟨p, rfl, h⟩ := h
  exact .tup h (.cons (.text _) (.cons (.text _) (.cons (.text _) .nil)))

/-! == of tuples that are nested keys -/
section
variable {X : Cx}
theorem NR.tupV {H : Hp} {ks : List NestedKey} {x : V} (h : NR H (.tup ks) x) : ∃ a vs, x = .ref a ∧ H a = some (.tup vs) ∧ NRs H ks vs := by
  cases h with
  | tup h r => exact ⟨_, _, rfl, h, r⟩
def rEqT : R2 := fun x y H Q => ∃ d e, NR H (.tup d) x ∧ NR H (.tup e) y ∧ NestedKey.depthAll d ≤ 60 ∧ NestedKey.depthAll e ≤ 60 ∧ Q (.bl (decide (d = e))) H
def rNeT : R2 := fun x y H Q => ∃ d e, NR H (.tup d) x ∧ NR H (.tup e) y ∧ NestedKey.depthAll d ≤ 60 ∧ NestedKey.depthAll e ≤ 60 ∧ Q (.bl (!decide (d = e))) H
theorem tup_items {P : Program} {w : World} {A : Around} {s : Shared} {H : Hp} {d e : List NestedKey} {u v : Value} (ok : HOk P w H s.heap) (hu : A.units + 64 < cLine) (rx : NestedIs s.heap (.tup d) u) (ry : NestedIs s.heap (.tup e) v) (h1 : NestedKey.depthAll d ≤ 60) (h2 : NestedKey.depthAll e ≤ 60) :
    ∃ (a b : Addr) (vs ws : Array Value), u = .ref a ∧ v = .ref b ∧ s.heap.IsTuple a vs ∧ s.heap.IsTuple b ws ∧ (∀ j (j1 : j < vs.size) (j2 : j < ws.size), SeqAt.EqAt A.in1 s vs[j] ws[j] (keyEqAt d e j)) ∧
      ((List.range (min vs.size ws.size)).all (keyEqAt d e) && vs.size == ws.size) = decide (d = e) := by
  cases rx with
  | @tup l o vs n _ h1' h2' h3' h4' =>
    cases ry with
    | @tup l' o' vs' n' _ k1 k2 k3 k4 =>
      have n1 : vs.size = d.length := by simpa using NestedAll.length _ _ h4'
      have n2 : vs'.size = e.length := by simpa using NestedAll.length _ _ k4
      refine ⟨l, l', vs, vs', rfl, rfl, ⟨_, h1', h2', _, h3'⟩, ⟨_, k1, k2, _, k3⟩, fun j j1 j2 => ?_, ?_⟩
      · have := eqAt_keys d e A.in1 s vs.toList vs'.toList h4' k4 (by rw [Around.in1_units]; omega) j (by simpa using j1) (by simpa using j2)
        simpa using this
      · rw [n1, n2, beqAll_eq]
        have q := NestedKey.decide_eq (.tup d) (.tup e)
        rw [NestedKey.beq] at q
        rw [← q]
        by_cases hde : d = e
        · subst hde; simp
        · simp [hde]
theorem op_eqT (hu : X.A.units + 64 < cLine) : OpR X (compareOp .Eq) rEqT := by
  intro pins s σ H x y v u Q I rx ry h
  obtain ⟨d, e, hd, he, sd, se, q⟩ := h
  obtain ⟨a, b, vs, ws, rfl, rfl, t1, t2, t3, t4⟩ := tup_items I.hok hu (NR.is I.hok _ _ _ hd rx) (NR.is I.hok _ _ _ he ry) sd se
  exact SeqAt.RcAt.tuples t1 t2 (by omega) t3 _ _ _ _ ⟨.bl _, H, I, by rw [t4]; rfl, q⟩
theorem op_neT (hu : X.A.units + 64 < cLine) : OpR X (compareOp .NotEq) rNeT := by
  intro pins s σ H x y v u Q I rx ry h
  obtain ⟨d, e, hd, he, sd, se, q⟩ := h
  obtain ⟨a, b, vs, ws, rfl, rfl, t1, t2, t3, t4⟩ := tup_items I.hok hu (NR.is I.hok _ _ _ hd rx) (NR.is I.hok _ _ _ he ry) sd se
  exact SeqAt.RcNeAt.tuples t1 t2 (by omega) t3 _ _ _ _ ⟨.bl _, H, I, by rw [t4]; rfl, q⟩
/-- two actions -/
def rEqA : R2 := fun x y H Q => ∃ a b, RAct H x a ∧ RAct H y b ∧ Q (.bl (decide (a = b))) H
def rNeA : R2 := fun x y H Q => ∃ a b, RAct H x a ∧ RAct H y b ∧ Q (.bl (!decide (a = b))) H
theorem actN_dec (a b : Act) : decide ([NestedKey.text a.1, .text a.2.1, .text a.2.2] = [NestedKey.text b.1, .text b.2.1, .text b.2.2]) = decide (a = b) := by
  by_cases h : a = b
  · subst h; simp
  · rw [decide_eq_false h, decide_eq_false]
    intro q
    exact h (actN_inj (congrArg NestedKey.tup q))
theorem op_eqA (hu : X.A.units + 64 < cLine) : OpR X (compareOp .Eq) rEqA := by
  intro pins s σ H x y v u Q I rx ry ⟨a, b, ha, hb, q⟩
  exact op_eqT hu pins s σ H x y v u Q I rx ry ⟨_, _, ha.nr, hb.nr, by simp [NestedKey.depthAll, NestedKey.depth], by simp [NestedKey.depthAll, NestedKey.depth], by rw [actN_dec]; exact q⟩
theorem op_neA (hu : X.A.units + 64 < cLine) : OpR X (compareOp .NotEq) rNeA := by
  intro pins s σ H x y v u Q I rx ry ⟨a, b, ha, hb, q⟩
  exact op_neT hu pins s σ H x y v u Q I rx ry ⟨_, _, ha.nr, hb.nr, by simp [NestedKey.depthAll, NestedKey.depth], by simp [NestedKey.depthAll, NestedKey.depth], by rw [actN_dec]; exact q⟩
/-- a tuple with a text ahead against a tuple of one text -/
def rEqF : R2 := fun x y H Q => ∃ a b s t xs, x = .ref a ∧ y = .ref b ∧ H a = some (.tup (.str s :: xs)) ∧ H b = some (.tup [.str t]) ∧ Q (.bl (decide (s = t) && xs.isEmpty)) H
theorem op_eqF (hu : X.A.units + 64 < cLine) : OpR X (compareOp .Eq) rEqF := by
  intro pins s σ H x y v u Q I rx ry ⟨a, b, z, t, xs, ex, ey, ha, hb, q⟩
  subst ex ey
  cases (show v = Value.ref a from rx)
  cases (show u = Value.ref b from ry)
  obtain ⟨its, rv, pl, _⟩ := I.tuple (SqT.of ha)
  obtain ⟨its2, rv2, pl2, _⟩ := I.tuple (SqT.of hb)
  cases rv2 with
  | cons r1 r2 =>
    cases r2
    cases rv with
    | @cons _ v0 _ vr r3 r4 =>
      obtain ⟨t3, rfl⟩ := (show ∃ t, _ = Value.str z t from r3)
      obtain ⟨t1, rfl⟩ := (show ∃ t', _ = Value.str t t' from r1)
      have hl := r4.length
      refine SeqAt.eq_tupleAt (e := fun _ => decide (z = t)) pl pl2 (by omega) (fun j j1 j2 => ?_) ⟨.bl _, H, I, ?_, q⟩
      · have j0 : j = 0 := by simp at j2; omega
        subst j0
        exact SeqAt.EqAt.str_str z t3 t t1
      · show Value.bool _ = Value.bool _
        congr 1
        cases vr with
        | nil =>
          cases r4
          simp
        | cons v1 vr =>
          cases r4
          simp
end
end PL
namespace PL
open PySem PySem.Spec PyProof.Rows L2
/-! dicts whose keys are nested tuples -/
abbrev NKV := NestedKey × Addr × V
abbrev NP : List NKV → List (NestedKey × Addr × Value) → Prop := Paired fun p q => p.1 = q.1 ∧ p.2.1 = q.2.1 ∧ RelV p.2.2 q.2.2
def NDo (P : Program) (w : World) (a : Addr) (kvs : List NKV) : HO := .ext fun h => kvs.length ≤ sizeLine ∧ (a == sysModules) = false ∧ ∃ xs, NP kvs xs ∧
  ∃ o es ep, h.get? a = some o ∧ o.ExactDict ∧ o.data = .dict es ep ∧ es.toList = xs.map (entryOfKey (nestedKind P w)) ∧ (xs.map (·.1)).Nodup
structure ND (P : Program) (w : World) (H : Hp) (a : Addr) (kvs : List NKV) : Prop where
  pt : H a = some (NDo P w a kvs)
  keys : ∀ p ∈ kvs, NR H p.1 (.ref p.2.1) ∧ p.1.depth ≤ 8
def ndVal (kvs : List NKV) (k : NestedKey) : Option V := (kvs.find? fun p => decide (p.1 = k)).map (·.2.2)
def ndPut (kvs : List NKV) (k : NestedKey) (a : Addr) (v : V) : List NKV :=
  if (ndVal kvs k).isSome = true then kvs.map (fun p => if p.1 = k then (p.1, p.2.1, v) else p) else kvs ++ [(k, a, v)]
theorem ndPut_new {kvs : List NKV} {k : NestedKey} {a : Addr} {v : V} (h : ndVal kvs k = none) : ndPut kvs k a v = kvs ++ [(k, a, v)] := by
  unfold ndPut
  rw [h]
  exact if_neg (by decide)
theorem NP.val {kvs : List NKV} {xs : List (NestedKey × Addr × Value)} (r : NP kvs xs) (k : NestedKey) : RelO (ndVal kvs k) ((atKey xs k).map (·.2)) := by
  induction r with
  | nil => trivial
  | @cons p q ps qs c t ih =>
    have c1 : q.1 = p.1 := c.1.symm
    by_cases e : p.1 = k
    · simp only [ndVal, atKey, List.find?_cons, c1, decide_eq_true e, Option.map_some]
      exact c.2.2
    · simpa only [ndVal, atKey, List.find?_cons, c1, decide_eq_false e] using ih
theorem NP.repl {kvs : List NKV} {xs : List (NestedKey × Addr × Value)} (r : NP kvs xs) (k : NestedKey) {y : V} {u : Value} (ry : RelV y u) :
    NP (kvs.map fun p => if p.1 = k then (p.1, p.2.1, y) else p) (xs.map (putAt k u)) := by
  induction r with
  | nil => exact .nil
  | @cons p q ps qs c t ih =>
    simp only [List.map_cons]
    refine Paired.cons ?_ ih
    have c1 : q.1 = p.1 := c.1.symm
    by_cases e : p.1 = k
    · simp only [putAt, c1, e, if_true]
      exact ⟨trivial, c.2.1, ry⟩
    · simp only [putAt, c1, e, if_false]
      exact ⟨trivial, c.2⟩
theorem NP.put {kvs : List NKV} {xs : List (NestedKey × Addr × Value)} (r : NP kvs xs) (k : NestedKey) {b : Addr} {y : V} {u : Value} (ry : RelV y u) :
    NP (ndPut kvs k b y) (storedH xs k b u) := by
  have same : (ndVal kvs k).isSome = (atKey xs k).isSome := (r.val k).isSome_eq.trans Option.isSome_map
  unfold ndPut storedH
  rw [same]
  cases (atKey xs k).isSome
  · simp only [Bool.false_eq_true, if_false]
    exact psnoc r ⟨rfl, rfl, ry⟩
  · simp only [if_true]
    exact r.repl k ry
theorem ndPut_len (kvs : List NKV) (k : NestedKey) (a : Addr) (v : V) : (ndPut kvs k a v).length ≤ kvs.length + 1 := by
  unfold ndPut
  split <;> simp
theorem ndPut_mem {kvs : List NKV} {k : NestedKey} {a : Addr} {v : V} {p : NKV} (h : p ∈ ndPut kvs k a v) : (∃ q ∈ kvs, q.1 = p.1 ∧ q.2.1 = p.2.1) ∨ p = (k, a, v) := by
  unfold ndPut at h
  split at h
  · obtain ⟨q, hq, rfl⟩ := List.mem_map.mp h
    left
    refine ⟨q, hq, ?_⟩
    split <;> exact ⟨rfl, rfl⟩
  · rcases List.mem_append.mp h with h | h
    · exact .inl ⟨p, h, rfl, rfl⟩
    · exact .inr (by simpa using h)
section
variable {P : Program} {w : World} {H H' : Hp} {h : Heap} {a : Addr} {kvs : List NKV}
theorem ND.same (d : ND P w H a kvs) (s : Same H H') : ND P w H' a kvs := ⟨s _ _ d.pt, fun p hp => ⟨NR.mono s _ _ (d.keys p hp).1, (d.keys p hp).2⟩⟩
/-- what only keeps the tuples -/
theorem NR.tups (s : ∀ b xs, H b = some (.tup xs) → H' b = some (.tup xs)) : ∀ (k : NestedKey) (v : V), NR H k v → NR H' k v := by
  intro k v h
  refine NR.rec (motive_1 := fun k v _ => NR H' k v) (motive_2 := fun ks vs _ => NRs H' ks vs) .none (fun e => .bool e) (fun i => .int i) (fun x => .text x) (fun h _ r => .tup (s _ _ h) r) .nil (fun _ _ a b => .cons a b) h
theorem nd_of (ok : HOk P w H h) (d : ND P w H a kvs) : kvs.length ≤ sizeLine ∧ (a == sysModules) = false ∧ ∃ xs, NP kvs xs ∧ h.DictOfH (nestedKind P w) a xs := by
  obtain ⟨⟨z, hs, xs, r, o, es, ep, h1, h2, h3, h4, h5⟩, _⟩ := (show ObjOk P w H h a (NDo P w a kvs) from ok a _ d.pt)
  refine ⟨z, hs, xs, r, o, es, ep, h1, h2, h3, h4, fun x hx => ?_, h5⟩
  obtain ⟨p, hp, e1, e2, _⟩ := pmem' r hx
  have q := d.keys p hp
  rw [e1, e2] at q
  exact ⟨NR.is ok _ _ _ q.1 rfl, q.2⟩
theorem nd_new {kvs : List NKV} {xs : List (NestedKey × Addr × Value)} (z : kvs.length ≤ sizeLine) (hs : (a == sysModules) = false) (r : NP kvs xs) (d : h.DictOfH (nestedKind P w) a xs) : ObjOk P w H h a (NDo P w a kvs) := by
  obtain ⟨o, es, ep, h1, h2, h3, h4, _, h5⟩ := d
  refine ⟨⟨z, hs, xs, r, o, es, ep, h1, h2, h3, h4, h5⟩, ⟨o, h1⟩, fun g1 g2 q k => ?_⟩
  obtain ⟨z, hs, xs, r, o, es, ep, h1, rest⟩ := q
  exact ⟨z, hs, xs, r, o, es, ep, k o h1, rest⟩
end
section
variable {X : Cx}
theorem nd_room {k : Nat} {A : Around} (hr : Room k A) : (nestedKind X.prog X.w).room A.in1 := by
  show A.in1.units + 8 < cLine
  have := hr.un
  rw [Around.in1_units]
  omega
/-- k in d, k not in d -/
def rInN (P : Program) (w : World) : R2 := fun x y H Q => ∃ a kvs k, y = .ref a ∧ ND P w H a kvs ∧ (∃ ks, k = .tup ks) ∧ NR H k x ∧ k.depth ≤ 8 ∧ Q (.bl (ndVal kvs k).isSome) H
def rNotInN (P : Program) (w : World) : R2 := fun x y H Q => ∃ a kvs k, y = .ref a ∧ ND P w H a kvs ∧ (∃ ks, k = .tup ks) ∧ NR H k x ∧ k.depth ≤ 8 ∧ Q (.bl (!(ndVal kvs k).isSome)) H
theorem op_inN (hu : X.A.units + 64 < cLine) : OpR X (compareOp .In) (rInN X.prog X.w) := by
  intro pins s σ H x y v u Q I rx ry ⟨a, kvs, k, ey, d, ⟨ks, ek⟩, hk, hd, q⟩
  subst ey ek
  obtain ⟨b, vs, ex, _, _⟩ := hk.tupV
  subst ex
  have hi := NR.is I.hok _ _ _ hk rx
  cases (show v = Value.ref b from rx)
  cases (show u = Value.ref a from ry)
  obtain ⟨z, hs, xs, r, dd⟩ := nd_of I.hok d
  refine wpAny_in_heap (knd := nestedKind X.prog X.w) (by show X.A.in1.units + 8 < cLine; rw [Around.in1_units]; omega) ⟨hi, hd⟩ hs dd ?_
  have e := (r.val (.tup ks)).isSome_eq
  rw [Option.isSome_map] at e
  rw [← e]
  exact ⟨.bl _, H, I.tok _, rfl, q⟩
theorem op_notinN (hu : X.A.units + 64 < cLine) : OpR X (compareOp .NotIn) (rNotInN X.prog X.w) := by
  intro pins s σ H x y v u Q I rx ry ⟨a, kvs, k, ey, d, ⟨ks, ek⟩, hk, hd, q⟩
  subst ey ek
  obtain ⟨b, vs, ex, _, _⟩ := hk.tupV
  subst ex
  have hi := NR.is I.hok _ _ _ hk rx
  cases (show v = Value.ref b from rx)
  cases (show u = Value.ref a from ry)
  obtain ⟨z, hs, xs, r, dd⟩ := nd_of I.hok d
  refine wpAny_notIn_heap (knd := nestedKind X.prog X.w) (by show X.A.in1.units + 8 < cLine; rw [Around.in1_units]; omega) ⟨hi, hd⟩ hs dd ?_
  have e := (r.val (.tup ks)).isSome_eq
  rw [Option.isSome_map] at e
  rw [← e]
  exact ⟨.bl _, H, I.tok _, rfl, q⟩
/-- d[k], there -/
def tNGet (P : Program) (w : World) (td ty : TE) : TE := fun σ H Q => td σ H fun x H1 => ty σ H1 fun y H2 => ∃ a kvs k v, x = .ref a ∧ ND P w H2 a kvs ∧ (∃ ks, k = .tup ks) ∧ NR H2 k y ∧ k.depth ≤ 8 ∧ ndVal kvs k = some v ∧ Q v H2
theorem pe_nget {o i : Expr} {pos : Pos} {td ty : TE} (hu : X.A.units + 64 < cLine) (ho : PE X o td) (hi : PE X i ty) (hs : NoSl i) : PE X (.Subscript o i pos) (tNGet X.prog X.w td ty) := by
  refine ⟨fun pins s σ H Q I h => ?_⟩
  refine subD_of PySem.F.slot_dict_getitem.lookup hs (thn (ho.run pins s σ H _ I h) fun u s1 ⟨x, H1, I1, rx, q1⟩ => thn (hi.run pins s1 σ H1 _ I1 q1) fun iv s2 ⟨y, H2, I2, ry, a, kvs, k, v, ex, d, ⟨ks, ek⟩, hk, hd, hv, q2⟩ => ?_)
  subst ex ek
  obtain ⟨b, vs, ey, _, _⟩ := hk.tupV
  subst ey
  have hi := NR.is I2.hok _ _ _ hk ry
  cases (show iv = Value.ref b from ry)
  obtain rfl : u = Value.ref a := rx
  obtain ⟨z, hs, xs, r, dd⟩ := nd_of I2.hok d
  refine ⟨dd.typeIs, ?_⟩
  obtain ⟨w', hw, rw'⟩ := RelO.some_of (v := v) (o := (atKey xs (.tup ks)).map (·.2)) (by rw [← hv]; exact r.val _)
  obtain ⟨p, hp, hp2⟩ := Option.map_eq_some_iff.mp hw
  refine wpAny_getItem_heap (knd := nestedKind X.prog X.w) (by show X.A.in1.units + 8 < cLine; rw [Around.in1_units]; omega) ⟨hi, hd⟩ dd hp ?_
  rw [hp2]
  exact ⟨v, H2, I2.tok _, rw', q2⟩
/-- d[k] = v (for pg_sub) -/
def rSetN (P : Program) (w : World) : TSet := fun o i v H Q => ∃ a b kvs k, o = .ref a ∧ i = .ref b ∧ ND P w H a kvs ∧ (∃ ks, k = .tup ks) ∧ NR H k (.ref b) ∧ k.depth ≤ 8 ∧ kvs.length < sizeLine ∧
  (ND P w (upd H a (NDo P w a (ndPut kvs k b v))) a (ndPut kvs k b v) → Q (upd H a (NDo P w a (ndPut kvs k b v))))
theorem set_N (hu : X.A.units + 64 < cLine) : PSet X (rSetN X.prog X.w) := by
  intro pins s σ H o i v ov iv u Q I ro ri rv ⟨a, b, kvs, k, eo, ei, d, ⟨ks, ek⟩, hk, hd, hl, q⟩
  subst eo ei ek
  have hi := NR.is I.hok _ _ _ hk ri
  cases (show ov = Value.ref a from ro)
  cases (show iv = Value.ref b from ri)
  obtain ⟨z, hs, xs, r, dd⟩ := nd_of I.hok d
  have hz : xs.length ≤ sizeLine := by rw [← plen r]; exact z
  have hl2 : (ndPut kvs (.tup ks) b v).length ≤ sizeLine := by have := ndPut_len kvs (.tup ks) b v; omega
  have np : ∀ c ys, H c = some (.tup ys) → c ≠ a := fun c ys ec => ne_of ec d.pt (fun z => nomatch z)
  refine wpAny_setItem_heap (knd := nestedKind X.prog X.w) (hsz := hz) (by show X.A.in1.units + 8 < cLine; rw [Around.in1_units]; omega) ⟨hi, hd⟩ dd fun h' dd' hs' => ⟨_, ?_, q ⟨upd_same, fun p hp => ?_⟩⟩
  · have he : ∃ q, h'.get? a = some q := let ⟨q, _, _, hq, _⟩ := dd'; ⟨q, hq⟩
    exact d_write I (by rw [d.pt]; exact True.intro) hs' he (nd_new hl2 hs (r.put (.tup ks) rv) dd')
  · have keep : ∀ (k : NestedKey) (v0 : V), NR H k v0 → NR (upd H a (NDo X.prog X.w a (ndPut kvs (.tup ks) b v))) k v0 := NR.tups fun c ys ec => by rw [upd_ne (np c ys ec)]; exact ec
    rcases ndPut_mem hp with ⟨p', hp', e1, e2⟩ | e
    · have := d.keys p' hp'
      rw [e1, e2] at this
      exact ⟨keep _ _ this.1, this.2⟩
    · subst e
      exact ⟨keep _ _ hk, hd⟩
/-- len(d) -/
theorem call_lenN : CallR X (.builtin "len") (fun xs H Q => ∃ a kvs, xs = [V.ref a] ∧ ND X.prog X.w H a kvs ∧ Q (.int (kvs.length : Int)) H) := by
  intro pins s σ H xs us Q I r ⟨a, kvs, ex, d, q⟩
  subst ex
  obtain ⟨u, eu, ru⟩ := vals1 r
  subst eu
  cases (show u = Value.ref a from ru)
  obtain ⟨z, hs, ys, rr, dd⟩ := nd_of I.hok d
  have hn : (pairsH ys).length = kvs.length := by rw [pairsH_length, ← plen rr]
  refine PyProof.Rows.call_len_slot (n := (pairsH ys).length) dd.typeIs PySem.F.slot_dict_len (fun Q' hq => len_keyed hs ⟨ys, dd, rfl⟩ hq) (by omega) (by rw [hn]; rw [sizeLine_eq] at z; omega) ?_
  rw [hn]
  exact ⟨.int _, H, I.tok _, ⟨_, rfl⟩, q⟩
end

/-! displays with one pair, the key a tuple -/
theorem wpAny_Dict_walkH {prog : Program} {w : World} {κ : Type} [DecidableEq κ] {knd : HeapKind prog w κ} {A : Around} {E : Value → Shared → Prop} {s : Shared} {env : Env} {keys : List (Option Expr)} {values : List Expr} {pos : Pos} {Q : Value → Shared → Prop} (hu : knd.room A)
    (hall : keys.all (·.isSome) = true) (hl : keys.length = values.length) (h0 : keys ≠ []) (hlen : keys.length ≤ 15)
    (h : wpAny (model prog w) A (evalPairs (pairTrees keys values env pos)) (fun vs s₁ => ∃ ps, CarriesH knd s₁.heap vs ps ∧ s₁.heap.DictOfH knd s.heap.objs.size [] ∧
      ∀ h' tk, h'.DictOfH knd s.heap.objs.size (storedAllH [] ps) → Heap.SameBut s.heap.objs.size s₁.heap h' → Q (.ref s.heap.objs.size) { s₁ with heap := h', toks := tk }) E
      { s with heap := s.heap.push { cls := .type "dict", data := .dict #[] } }) :
    wpAny (model prog w) A (eval (.Dict keys values pos) env) Q E s := by
  have hn := pairTrees_length keys values env pos hall hl
  have hz : pairTrees keys values env pos ≠ [] := by
    intro he
    rw [he] at hn
    exact h0 (List.length_eq_zero_iff.mp hn.symm)
  rw [arm_eval_Dict, zip_pairTrees keys values env pos hall hl, dictDisplay_pairs (pairTrees keys values env pos) hz (by omega)]
  exact wpAny_bind (wpAny_standAt (wpAny_bind (wpAny_subDictH (knd := knd) (Q := fun d s' => wpAny (model prog w) A (pure (Value.ref d)) Q E s') hu (by rw [hn]; exact hlen)
    (wpAny_mono h (fun vs s₁ h₁ => by obtain ⟨ps, hc, hm, hq⟩ := h₁; exact ⟨ps, hc, hm, fun h' tk a b => wpAny_pure (hq h' tk a b)⟩) fun _ _ e => e))))
section
variable {X : Cx} {k v : Expr} {tk tv : TE} {pos : Pos}
def tDisp1T (tk tv : TE) : TE := fun σ H Q => ∀ p, H p = none → tk σ (upd H p (.dT [])) fun x H1 => tv σ H1 fun y H2 => ∃ b ks, x = .ref b ∧ H2 p = some (.dT []) ∧ H2 b = some (.tup (ks.map kV)) ∧ Q (.ref p) (upd H2 p (.dT [(ks, y)]))
theorem pe_disp1T (hu : X.A.units + 64 < cLine) (hk : PE X k tk) (hv : PE X v tv) : PE X (.Dict [some k] [v] pos) (tDisp1T tk tv) := by
  refine ⟨fun pins s σ H Q I q => ?_⟩
  have hn := I.hok.fresh (Nat.le_refl s.heap.objs.size)
  have I1 := I.laid (a := s.heap.objs.size) (o := .dT []) (h' := s.heap.push { cls := .type "dict", data := .dict #[] }) (t' := s.toks) (fun _ _ q => Heap.get?_push_of_some _ q) (Nat.le_refl _) (dt_empty s.heap I.big)
  refine wpAny_Dict_walkH (knd := tupleKind (mixKind X.prog X.w)) (by show X.A.units < cLine; omega) rfl rfl (by simp) (by simp) (pairTrees_cons_walk (thn (hk.run pins _ σ _ _ I1 (q _ hn)) fun u1 s1 ⟨x, H1, I1', r1, q1⟩ => thn (hv.run pins s1 σ H1 _ I1' q1) fun u2 s2 ⟨y, H2, I2, r2, q2⟩ => pairTrees_nil_walk ?_))
  obtain ⟨b, ks, ex, e, eb, q2⟩ := q2
  subst ex
  cases (show u1 = Value.ref b from r1)
  obtain ⟨z, hs, xs0, r0, dd⟩ := dt_of I2.hok e
  cases r0
  refine ⟨[(ks, b, u2)], ⟨rfl, rfl, key_of I2.hok eb, True.intro⟩, dd, fun h' tk' dd' hs' => ⟨.ref s.heap.objs.size, _, ?_, rfl, q2⟩⟩
  have np : ∀ c ys, H2 c = some (.tup ys) → c ≠ s.heap.objs.size := fun c ys ec => ne_of ec e (fun z => nomatch z)
  obtain ⟨qo, es, ep, hq, h2, h3, h4, _, h5⟩ := dd'
  refine d_write I2 (by rw [e]; exact True.intro) hs' ⟨qo, hq⟩ ⟨by show 1 ≤ sizeLine; decide, hs, [(ks, b, u2)], .cons ⟨rfl, ?_, r2⟩ .nil, qo, es, ep, hq, h2, h3, h4, h5⟩
  show (upd H2 s.heap.objs.size (.dT [(ks, y)])) b = _
  rw [upd_ne (np b _ eb)]
  exact eb
def tDisp1N (P : Program) (w : World) (tk tv : TE) : TE := fun σ H Q => ∀ p, H p = none → tk σ (upd H p (NDo P w p [])) fun x H1 => tv σ H1 fun y H2 => ∃ b ks, x = .ref b ∧ H2 p = some (NDo P w p []) ∧ NR H2 (.tup ks) x ∧ (NestedKey.tup ks).depth ≤ 8 ∧
  (ND P w (upd H2 p (NDo P w p [(.tup ks, b, y)])) p [(.tup ks, b, y)] → Q (.ref p) (upd H2 p (NDo P w p [(.tup ks, b, y)])))
theorem pe_disp1N (hu : X.A.units + 64 < cLine) (hk : PE X k tk) (hv : PE X v tv) : PE X (.Dict [some k] [v] pos) (tDisp1N X.prog X.w tk tv) := by
  refine ⟨fun pins s σ H Q I q => ?_⟩
  have hn := I.hok.fresh (Nat.le_refl s.heap.objs.size)
  have I1 := I.laid (a := s.heap.objs.size) (o := NDo X.prog X.w s.heap.objs.size []) (h' := s.heap.push { cls := .type "dict", data := .dict #[] }) (t' := s.toks) (fun _ _ q => Heap.get?_push_of_some _ q) (Nat.le_refl _)
    (nd_new (Nat.zero_le _) (beq_eq_false_iff_ne.mpr (Ne.symm (Nat.ne_of_lt I.big))) .nil (Heap.DictOfH.new s.heap))
  refine wpAny_Dict_walkH (knd := nestedKind X.prog X.w) (by show X.A.units + 8 < cLine; omega) rfl rfl (by simp) (by simp) (pairTrees_cons_walk (thn (hk.run pins _ σ _ _ I1 (q _ hn)) fun u1 s1 ⟨x, H1, I1', r1, q1⟩ => thn (hv.run pins s1 σ H1 _ I1' q1) fun u2 s2 ⟨y, H2, I2, r2, q2⟩ => pairTrees_nil_walk ?_))
  obtain ⟨b, ks, ex, e, hk2, hd2, q2⟩ := q2
  subst ex
  have hi := NR.is I2.hok _ _ _ hk2 r1
  cases (show u1 = Value.ref b from r1)
  obtain ⟨z, hs, xs0, r0, dd⟩ := nd_of I2.hok (⟨e, fun p hp => nomatch hp⟩ : ND X.prog X.w H2 _ [])
  cases r0
  have np : ∀ c ys, H2 c = some (.tup ys) → c ≠ s.heap.objs.size := fun c ys ec => ne_of ec e (fun z => nomatch z)
  refine ⟨[(.tup ks, b, u2)], ⟨rfl, rfl, ⟨hi, hd2⟩, True.intro⟩, dd, fun h' tk' dd' hs' => ⟨.ref s.heap.objs.size, _, ?_, rfl, q2 ⟨upd_same, fun p hp => ?_⟩⟩⟩
  · have he : ∃ q, h'.get? s.heap.objs.size = some q := let ⟨q, _, _, hq, _⟩ := dd'; ⟨q, hq⟩
    exact d_write I2 (by rw [e]; exact True.intro) hs' he (nd_new (by show 1 ≤ sizeLine; decide) hs (.cons ⟨rfl, rfl, r2⟩ .nil) dd')
  · have e1 : p = (.tup ks, b, y) := by simpa using hp
    subst e1
    exact ⟨NR.tups (fun c ys ec => by rw [upd_ne (np c ys ec)]; exact ec) _ _ hk2, hd2⟩
end
end PL
namespace PL
open PySem PySem.Spec PyProof.Rows L2
/-! comprehensions that make any new object: one core -/
structure BS (Y : Cx) (fp : List Addr) (tn : Nat → Heap → Prop) (σ : L2.St) (i : Nat) (H : Hp) (s : Shared) : Prop where
  inv : Inv Y [] σ H s
  st : tn i s.heap
  nf : ∀ b ∈ fp, H b = none
theorem BS.fpo {Y : Cx} {fp : List Addr} {tn : Nat → Heap → Prop} {σ : L2.St} {i : Nat} {H : Hp} {s : Shared} (b : BS Y fp tn σ i H s) (hex : Y.ex = fp) (hpn : Y.pn = []) : ∀ c ∈ fp, FpOk Y [] H c := by
  intro c hc
  have hc' : c ∈ Y.ex := hex.symm ▸ hc
  have e := b.inv.ok.exf c hc'
  refine ⟨b.nf c hc, e.1, b.inv.ok.exfs c hc', Or.inl hc', e.2, ?_⟩
  rw [hpn]
  intro p hp
  simp at hp
theorem blk_turn {Y : Cx} {fp : List Addr} {tn : Nat → Heap → Prop} {J : It} {it : Addr} {tg : Expr} {g : TG} {tt : TT} {ifs : List Expr} {vs : List Nat} {σw : L2.St} {i : Nat} {H : Hp} {s : Shared}
    (hex : Y.ex = fp) (hpn : Y.pn = []) (hxe : Y.xe = fun _ _ => False) (hc : Y.calm = true) (T : Turn Y.prog Y.w Y.K tg J fp it tn) (pg : PG Y tg g) (pt : PTs Y ifs tt)
    (b : BS Y fp tn σw i H s) (go : J.go i H) {NX : Hp → Prop} {KR : L2.St → Hp → Prop}
    (step : ∀ x H', J.yld i H x H' → g x σw H' fun σ2 H2 => wipe σ2 vs = σw ∧ tt σ2 H2 fun k H3 => if k = true then KR σ2 H3 else NX H3)
    {fin : Shared → Prop} (hfin : ∀ s' H', BS Y fp tn σw (i + 1) H' s' → NX H' → fin s')
    {body : Shared → Prop} (hbody : ∀ pins σ2 H3 s3, Inv Y pins σ2 H3 s3 → KR σ2 H3 → (∀ s' H', Inv Y pins σ2 H' s' → NX H' → fin s') → body s3)
    {Rn : Shared → Prop} {E : Value → Shared → Prop} :
    wpAny (model Y.prog Y.w) Y.A (pyNext (.ref it)) (fun r s1 => match r with
      | none => Rn s1
      | some v => wpAny (model Y.prog Y.w) Y.A (letOwnedTupleGo tg (.ref it) v) (fun _ s1' => wpAny (model Y.prog Y.w) Y.A (assign tg Y.env v) (fun _ s2 =>
          wpAny (model Y.prog Y.w) Y.A (forIn ifs true fun c r => if r = true then do let ok ← isTrue c Y.env (eval c Y.env); pure (ForInStep.yield ok) else pure (ForInStep.yield r)) (fun ok s3 => if ok = true then body s3 else fin s3) E s2) E s1') E s1) E s := by
  have nx := T.item Y rfl rfl rfl hc i [] s σw H (fun _ _ => False) b.inv (b.fpo hex hpn) b.st go
  refine thnF nx ?_
  rintro r s6 ⟨u, rfl, h6⟩
  refine thnF h6 ?_
  rintro _ s7 ⟨x, H7, I7, r7, y7, st7, n7⟩
  have b7 : BS Y fp tn σw (i + 1) H7 s7 := ⟨I7, st7, n7⟩
  have hob := T.obj (i + 1) s7.heap st7
  have I7p := I7.pinned (b7.fpo hex hpn) hob
  have a8 := pg.run _ s7 σw H7 x u _ I7p r7 (step x H7 y7)
  rw [hxe] at a8
  refine thnF a8 ?_
  rintro _ s8 ⟨σ8, H8, I8, hw, q8⟩
  have a9 := pt.run _ s8 σ8 H8 _ I8 q8
  rw [hxe] at a9
  refine thnF a9 ?_
  rintro k s9 ⟨H9, I9, q9⟩
  have back : ∀ (s' : Shared) (H' : Hp), Inv Y ([] ++ pinsAt fp s7.heap) σ8 H' s' → NX H' → fin s' := by
    intro s' H' I' nxt
    have kept : ∀ c ∈ fp, ∀ o, s7.heap.get? c = some o → s'.heap.get? c = some o ∧ H' c = none := by
      intro c hc o ho
      have z := I'.pin (c, o) (by rw [hpn]; simpa using mem_pinsAt hc ho)
      exact ⟨z.1, z.2.1⟩
    refine hfin s' H' ⟨?_, T.keep _ _ _ st7 fun c hc o ho => (kept c hc o ho).1, fun c hc => ?_⟩ nxt
    · refine (Inv.unpinned (pins := []) I').weak (by rw [← hw, wipe_length]) fun j v e => ?_
      rw [← hw] at e
      exact (wipe_some e).1
    · obtain ⟨o, ho, _⟩ := hob c hc
      exact (kept c hc o ho).2
  cases k with
  | true => exact hbody _ _ _ _ I9 (by simpa using q9) back
  | false => exact back s9 H9 I9 (by simpa using q9)
/-- the reading: init the new object ahead, KK one element's step -/
def tGc (wi : TI) (g : TG) (tt : TT) (init : Addr → HO) (KK : Addr → L2.St → Hp → (Hp → Prop) → Prop) (vs : List Nat) : TE := fun σ H Q => wi σ H fun J H1 => ∀ D, H1 D = none →
  ∃ n G Y, L2.Walk J n G Y ∧ ∃ Pv : Nat → Hp → Prop, Pv 0 (upd H1 D (init D)) ∧ (∀ i H, i ≤ n → Pv i H → G H) ∧
    (∀ i x H H', i < n → Pv i H → Y i H x H' → g x (wipe σ vs) H' fun σ2 H2 => wipe σ2 vs = wipe σ vs ∧ tt σ2 H2 fun k H3 => if k = true then KK D σ2 H3 (Pv (i + 1)) else Pv (i + 1) H3) ∧ ∀ H, Pv n H → Q (.ref D) H
theorem gc_core {X : Cx} {e : Expr} {tg iter : Expr} {ifs : List Expr} {gs : List Comprehension} {scope : Scope} {own : List (Str × Nat)} {pos' : Pos} {wi : TI} {g : TG} {tt : TT} {init : Addr → HO} {KK : Addr → L2.St → Hp → (Hp → Prop) → Prop} {mk : Sem Value} {o0 : Obj}
    {body : Addr → Env → (Shared → Prop) → (Value → Shared → Prop) → Shared → Prop} (hcl : clausesOf e = ⟨tg, iter, ifs, 0⟩ :: gs)
    (hev : eval e X.env = comprehension e scope X.env pos' mk false (eval iter X.env))
    (hmk : ∀ (s : Shared) (Q : Value → Shared → Prop) (E : Value → Shared → Prop), Q (.ref s.heap.objs.size) { s with heap := s.heap.push o0 } → wpAny (model X.prog X.w) X.A mk Q E s)
    (hfr : ∀ (h : Heap), (h.push o0).get? h.objs.size = some o0) (hini : ∀ (H : Hp) (h : Heap), sysModules < h.objs.size → ObjOk X.prog X.w H (h.push o0) h.objs.size (init h.objs.size))
    (hloop : ∀ {R : Result → Shared → Prop} {s : Shared} {env : Env} {it : Value} {D : Addr} (I : Nat → Shared → Prop),
      (∀ n s, I n s → wpAny (model X.prog X.w) X.A (pyNext it) (fun r s1 => match r with
        | none => R (.ok .next) s1
        | some v => wpAny (model X.prog X.w) X.A (letOwnedTupleGo tg it v) (fun _ s1' => wpAny (model X.prog X.w) X.A (assign tg env v) (fun _ s2 =>
            wpAny (model X.prog X.w) X.A (forIn ifs true fun c r => if r = true then do let ok ← isTrue c env (eval c env); pure (ForInStep.yield ok) else pure (ForInStep.yield r)) (fun ok s3 =>
              if ok = true then body D env (fun s5 => ∃ m, m < n ∧ I m s5) (notedBy (model X.prog X.w) X.A env fun e s' => R (.error e) s') s3 else ∃ m, m < n ∧ I m s3)
            (notedBy (model X.prog X.w) X.A env fun e s' => R (.error e) s') s2) (notedBy (model X.prog X.w) X.A env fun e s' => R (.error e) s') s1') (notedBy (model X.prog X.w) X.A env fun e s' => R (.error e) s') s1)
        (notedBy (model X.prog X.w) X.A env fun e s' => R (.error e) s') s) → ∀ n, I n s → codeAny (model X.prog X.w) X.A (.compLoop e 0 it (.ref D) env) R s)
    (hstart : ∀ {R : Result → Shared → Prop} {s : Shared} {env : Env} {it acc : Value}, codeAny (model X.prog X.w) X.A (.compLoop e 0 it acc env) R s →
      wpAny (model X.prog X.w) X.A (pyIter it) (fun it' s' => codeAny (model X.prog X.w) X.A (.compLoop e 0 it' acc env) R s') (notedBy (model X.prog X.w) X.A env fun x s' => R (.error x) s') s → codeAny (model X.prog X.w) X.A (.compStart e 0 it acc env) R s)
    (hbody : ∀ (s0 : Shared) (H0 : Hp) (C : Addr) (cl : List (Str × Addr)) (fp : List Addr) (D : Addr) (pins : List (Addr × Obj)) (σ2 : L2.St) (H3 : Hp) (s3 : Shared) (N : Hp → Prop) (fin : Shared → Prop) (E : Value → Shared → Prop),
      Inv (X.blk s0 H0 scope (compEnvC scope cl C X.env) fp) pins σ2 H3 s3 → KK D σ2 H3 N → (∀ s' H', Inv (X.blk s0 H0 scope (compEnvC scope cl C X.env) fp) pins σ2 H' s' → N H' → fin s') → body D (compEnvC scope cl C X.env) fin E s3)
    (hc : X.calm = true) (hN : X.N.Nodup) (hi : PI X tg iter wi) (ok : BlkOk X.N X.env.scope scope own)
    (hg : ∀ (s : Shared) (H : Hp) (C : Addr) (cl : List (Str × Addr)) (fp : List Addr), PG (X.blk s H scope (compEnvC scope cl C X.env) fp) tg g)
    (ht : ∀ (s : Shared) (H : Hp) (C : Addr) (cl : List (Str × Addr)) (fp : List Addr), PTs (X.blk s H scope (compEnvC scope cl C X.env) fp) ifs tt) (hs : ∀ x, foldedSetIterable iter X.env x = pure x) :
    PE X e (tGc wi g tt init KK (own.map (·.2))) := by
  refine ⟨fun pins s σ H Q I h => ?_⟩
  rw [hev]
  have caught : ∀ y ∈ scope.names, y.2 = .free → ∃ c, X.env.cells.lookup y.1 = some c := by
    intro y hy e
    exact I.ok.has _ (ok.free y hy e)
  refine wpAny_comprehension_free (use := none) hcl hs (closure_ok caught) ok.kind (fun y hy e => (ok.uniq y hy).trans (congrArg some e)) ?_
  refine thn (hi.run pins s σ H _ I h) fun xv s1 hx => thn hx ?_
  rintro _ s2 ⟨it, fp, tn, J, H2, rfl, I2, T, st2, f2, q⟩
  refine hmk s2 _ _ (newEnv_comp ?_)
  obtain ⟨n, G, Y, wk, Pv, p0, pG, pstep, pend⟩ := q s2.heap.objs.size (I2.hok.fresh (Nat.le_refl _))
  have I3 : Inv X pins σ (upd H2 s2.heap.objs.size (init s2.heap.objs.size)) { s2 with heap := s2.heap.push o0 } :=
    I2.laid (t' := s2.toks) (fun b o e => Heap.get?_push_of_some _ e) (Nat.le_refl _) (hini _ _ I2.big)
  have low : ∀ b ∈ fp, b < s2.heap.objs.size := by
    intro b hb
    obtain ⟨o, e, _⟩ := T.obj _ _ st2 b hb
    exact Heap.lt_size e
  have f3 : ∀ b ∈ fp, FpOk X pins (upd H2 s2.heap.objs.size (init s2.heap.objs.size)) b ∧ b < (s2.heap.push o0).objs.size := by
    intro b hb
    refine ⟨⟨?_, (f2 b hb).2⟩, Heap.lt_size (Heap.get?_push_of_some _ (T.obj _ _ st2 b hb).choose_spec.1)⟩
    rw [upd_ne (Nat.ne_of_lt (low b hb))]
    exact (f2 b hb).1
  have st3 : tn 0 (s2.heap.push o0) := T.keep _ _ _ st2 fun b _ o e => Heap.get?_push_of_some _ e
  have I4 := block_start I3 ok hN f3
  generalize hH3 : upd H2 s2.heap.objs.size (init s2.heap.objs.size) = H3 at I3 I4 p0 f3
  generalize hs3 : ({ s2 with heap := s2.heap.push o0 } : Shared) = s3 at I3 I4
  have eh3 : s3.heap = s2.heap.push o0 := by rw [← hs3]
  rw [← eh3] at st3 f3
  have hb' := hbody s3 H3 s3.heap.objs.size (cellsFrom (s3.heap.objs.size + 1) scope.names (cloFrom X.env.cells scope.names [])) fp s2.heap.objs.size
  have pg := hg s3 H3 s3.heap.objs.size (cellsFrom (s3.heap.objs.size + 1) scope.names (cloFrom X.env.cells scope.names [])) fp
  have pt := ht s3 H3 s3.heap.objs.size (cellsFrom (s3.heap.objs.size + 1) scope.names (cloFrom X.env.cells scope.names [])) fp
  show codeAny _ _ (.compStart e 0 (.ref it) (.ref s2.heap.objs.size) (compEnvC scope (cellsFrom (s3.heap.objs.size + 1) scope.names (cloFrom X.env.cells scope.names [])) s3.heap.objs.size X.env)) (compPost (model X.prog X.w) X.A X.xe none (EP X pins σ Q) (.ref s2.heap.objs.size) s3.heap.objs.size) _
  generalize hce : compEnvC scope (cellsFrom (s3.heap.objs.size + 1) scope.names (cloFrom X.env.cells scope.names [])) s3.heap.objs.size X.env = ce at I4 pg pt hb' ⊢
  have cL : ce.locals = s3.heap.objs.size := by subst hce; rfl
  have st4 : tn 0 (pushCells (s3.heap.push { cls := .type "dict", data := .dict #[] }) scope.names) := T.keep _ _ _ st3 fun b _ o e => pushCells_keeps _ _ _ _ (Heap.get?_push_of_some _ e)
  have b4 : BS (X.blk s3 H3 scope ce fp) fp tn (wipe σ (own.map (·.2))) 0 H3 { s3 with heap := pushCells (s3.heap.push { cls := .type "dict", data := .dict #[] }) scope.names } := ⟨I4, st4, fun b hb => (f3 b hb).1.1⟩
  have loop : codeAny (model X.prog X.w) X.A (.compLoop e 0 (.ref it) (.ref s2.heap.objs.size) ce) (compPost (model X.prog X.w) X.A X.xe none (EP X pins σ Q) (.ref s2.heap.objs.size) s3.heap.objs.size) { s3 with heap := pushCells (s3.heap.push { cls := .type "dict", data := .dict #[] }) scope.names } := by
    refine hloop (fun m s' => ∃ i H', m = n - i ∧ i ≤ n ∧ BS (X.blk s3 H3 scope ce fp) fp tn (wipe σ (own.map (·.2))) i H' s' ∧ Pv i H') ?_ n ⟨0, H3, rfl, Nat.zero_le _, b4, p0⟩
    rintro m s5 ⟨i, H5, rfl, hin, b5, pv5⟩
    have g5 := pG i H5 hin pv5
    by_cases hlt : i < n
    · refine blk_turn (Y := X.blk s3 H3 scope ce fp) (vs := own.map (·.2)) (NX := Pv (i + 1)) (KR := fun σ2 H6 => KK s2.heap.objs.size σ2 H6 (Pv (i + 1))) rfl rfl rfl hc T pg pt b5 (wk.goes i H5 hlt g5) (fun x H' y => pstep i x H5 H' hlt pv5 (wk.yields i H5 x H' hlt g5 y)) (fun s' H' b' p' => ?_) (fun pins' σ2 H6 s6 I6 k6 fin6 => hb' pins' σ2 H6 s6 _ _ _ I6 k6 fin6)
      exact ⟨n - (i + 1), by omega, i + 1, H', rfl, hlt, b', p'⟩
    · have ei : i = n := by omega
      subst ei
      have td := T.done (X.blk s3 H3 scope ce fp) rfl rfl rfl hc i [] s5 _ H5 (fun _ _ => False) b5.inv (b5.fpo rfl rfl) b5.st (wk.stops H5 g5)
      refine thnF td ?_
      rintro r s6 ⟨rfl, I6⟩
      have I7 : Inv X pins σ H5 s6 := I3.call' (ch := fp) I6.os I6.base I6.hok I6.bare fun b hb => by
        obtain ⟨_, a1, _, a3, a4, a5⟩ := (f3 b hb).1
        exact ⟨a3, a1, a4, a5⟩
      have nC : H5 s3.heap.objs.size = none := cL ▸ I6.free
      obtain ⟨mm, hns, _⟩ := I6.loc
      have hns : s6.heap.Ns s3.heap.objs.size mm := cL ▸ hns
      obtain ⟨a0, a1, a2, a3, a4, a5⟩ := I3.fpOk (Nat.le_refl _) nC
      exact ⟨mm, hns, fun h'' sb => ⟨.ref s2.heap.objs.size, H5, I7.turned (t' := s6.toks) (fun b o hb e => (sb.2 b hb).trans e) a0 a1 a3 a4 a5, rfl, pend H5 pv5⟩⟩
  exact hstart loop (T.self X.A 0 _ _ _ st4 loop)
end PL
namespace PL
open PySem PySem.Spec PyProof.Rows L2
/-! a set that is filled and then walked: members by membership alone -/
section
variable {P : Program} {w : World} {κ : Type} [DecidableEq κ]
structure Tab (w : World) (t : SetTable) : Prop where
  ris : Ris t.place.toList
  led : w.params.followText "set-order" = true ∨ t.led = true
def SetX (knd : PySem.KeyKind P w κ) (h : Heap) (a : Addr) (S : κ → Prop) (n : Nat) : Prop :=
  ∃ o es ep t, h.get? a = some o ∧ o.ExactSet ∧ o.data = .set es ep t ∧ ElemsOf knd es.toList ∧ (∀ k, S k ↔ ∃ e ∈ es.toList, knd.is k e.2 = true) ∧ es.size < scanBound ∧ t.fits es.size = true ∧ es.size ≤ n ∧ Tab w t
variable {knd : PySem.KeyKind P w κ} {h h' : Heap} {a : Addr} {S S' : κ → Prop} {n : Nat} {A : Around} {E : Value → Shared → Prop} {s : Shared}
theorem setX_put {a : Addr} {o : Obj} {es es1 : Array (Int × Value)} {ep : Nat} {t t1 : SetTable} (ho : s.heap.get? a = some o) (hd : o.data = .set es ep t) :
    (s.heap.update a (Obj.putSet es1 t1)).get? a = some { o with data := .set es1 (ep + 1) t1 } := by
  have e := putSet_of es1 t1 hd
  rw [← e]
  exact Heap.get?_update_self _ ho (by rw [e]; rfl)
/-- the new elements are stored, the table is laid anew where it is too full -/
theorem setX_tail {g : Bool → Sem Unit} (hg : ∀ (b : Bool) (s₁ : Shared) (Q' : Unit → Shared → Prop), Q' () s₁ → wpAny (model P w) A (g b) Q' E s₁)
    {o : Obj} {es es1 : Array (Int × Value)} {ep : Nat} {t t2 : SetTable} (ho : s.heap.get? a = some o) (hx : o.ExactSet) (hd : o.data = .set es ep t)
    (el : ElemsOf knd es1.toList) (ms : ∀ k, S' k ↔ ∃ e ∈ es1.toList, knd.is k e.2 = true) (lt : es1.size < scanBound) (ft : t2.fits es1.size = true) (le : es1.size ≤ n) (tb : Tab w t2) {dm : Bool} {R : Option Bool → Shared → Prop}
    (hR : ∀ h', Heap.SameBut a s.heap h' → SetX knd h' a S' n → R (some true) { s with heap := h' }) :
    wpAny (model P w) A (do
        storeSet a es1 t2
        if (!dm && t2.tooFull) = true then do
            g (relayAll t2 es1 (SetTable.grown es1.size)).2.2
            storeSet a (relayAll t2 es1 (SetTable.grown es1.size)).1 (relayAll t2 es1 (SetTable.grown es1.size)).2.1
            pure (some true)
          else pure (some true)) R E s := by
  have p1 := setX_put (es1 := es1) (t1 := t2) ho hd
  have same1 := Heap.SameBut.update s.heap a (Obj.putSet es1 t2)
  refine wpAny_bind (wpAny_storeSet_of ho hd ?_ (fits_of_scanBound lt))
  by_cases c : (!dm && t2.tooFull) = true
  · rw [if_pos c]
    have q1 := relayAll_perm t2 es1 (SetTable.grown es1.size)
    have q2 := relayAll_fits t2 es1 (SetTable.grown es1.size)
    have q3 := relayAll_ris t2 es1 (SetTable.grown es1.size)
    have q4 := relayAll_led t2 es1 (SetTable.grown es1.size)
    revert q1 q2 q3 q4
    generalize relayAll t2 es1 (SetTable.grown es1.size) = Z
    rcases Z with ⟨es2, t3, gv⟩
    intro q1 q2 q3 q4
    have z2 : es2.size = es1.size := by simpa using q1.length_eq
    refine wpAny_bind (hg gv _ _ (wpAny_bind (wpAny_storeSet_of p1 rfl ?_ (fits_of_scanBound (z2 ▸ lt)))))
    have p2 := setX_put (s := { s with heap := s.heap.update a (Obj.putSet es1 t2) }) (es1 := es2) (t1 := t3) p1 rfl
    refine wpAny_pure (hR _ (same1.trans (Heap.SameBut.update _ a _)) ?_)
    refine ⟨_, es2, _, t3, p2, hx, rfl, el.perm q1, fun k => ?_, z2 ▸ lt, q2, z2 ▸ le, q3, ?_⟩
    · rw [ms k]
      exact ⟨fun ⟨e, m, i⟩ => ⟨e, q1.mem_iff.mpr m, i⟩, fun ⟨e, m, i⟩ => ⟨e, q1.mem_iff.mp m, i⟩⟩
    · rcases tb.led with l | l
      · exact Or.inl l
      · exact Or.inr (q4.trans l)
  · rw [if_neg c]
    exact wpAny_pure (hR _ same1 ⟨_, es1, _, t2, p1, hx, rfl, el, ms, lt, ft, le, tb⟩)
theorem setX_hashed {k : κ} {v : Value} (hk : knd.is k v = true) (hv : v.scannable = true) {Q : Bool → Shared → Prop} (R : SetX knd s.heap a S n) (room : n + 1 < scanBound)
    (hQ : ∀ h' b, Heap.SameBut a s.heap h' → SetX knd h' a (fun j => S j ∨ j = k) (n + 1) → Q b { s with heap := h' }) :
    wpAny (model P w) A (setAddHashed a v (knd.hash k)) Q E s := by
  obtain ⟨o, es, ep, t, ho, hx, hd, el, ms, lt, ft, le, tb⟩ := R
  unfold setAddHashed setAddHashedIn
  refine wpAny_holding (wpAny_bind (wpAny_setState_of ho hd ft ?_))
  dsimp only
  rw [byScan_of hv lt el]
  simp only [↓reduceIte]
  unfold setAddByScan
  refine wpAny_bind (wpAny_bind (wpAny_rule (wpAny_bind (wpAny_setScan_of hk ho hd ft el ?_))))
  cases hf : List.findIdx? (fun e => knd.is k e.2) es.toList with
  | some j =>
    dsimp only
    obtain ⟨hj, pj, _⟩ := List.findIdx?_eq_some_iff_getElem.mp hf
    refine wpAny_pure (wpAny_pure (hQ s.heap _ (Heap.SameBut.refl a s.heap) ⟨o, es, ep, t, ho, hx, hd, el, fun i => ?_, lt, ft, Nat.le_succ_of_le le, tb⟩))
    show (S i ∨ i = k) ↔ _
    rw [ms i]
    exact ⟨fun z => z.elim id fun e => ⟨_, List.getElem_mem hj, e ▸ pj⟩, Or.inl⟩
  | none =>
    dsimp only
    have gw : ∀ (b : Bool) {s₁ : Shared} {Q' : Unit → Shared → Prop}, Q' () s₁ → wpAny (model P w) A (match b with | true => rule "set.scan.the-table-gave-way" | false => pure ()) Q' E s₁ := by
      intro b s₁ Q' q
      cases b
      · exact wpAny_pure q
      · exact wpAny_rule q
    have q1 := layNew_perm t es (knd.hash k) v
    have q2 := layNew_fits t es (knd.hash k) v
    have q3 := layNew_ris t es (knd.hash k) v tb.ris
    have q4 := layNew_led t es (knd.hash k) v
    revert q1 q2 q3 q4
    generalize layNew t es (knd.hash k) v = Z
    rcases Z with ⟨es1, t1, dm, gv⟩
    intro q1 q2 q3 q4
    dsimp only at q1 q2 q3 q4 ⊢
    rw [Array.toList_push] at q1
    have el1 : ElemsOf knd es1.toList := (el.push hk hv).perm q1
    have ms1 : ∀ i, (S i ∨ i = k) ↔ ∃ e ∈ es1.toList, knd.is i e.2 = true := by
      intro i
      rw [ms i]
      constructor
      · rintro (⟨e, m, z⟩ | e)
        · exact ⟨e, q1.mem_iff.mpr (List.mem_append_left _ m), z⟩
        · subst e
          exact ⟨_, q1.mem_iff.mpr (List.mem_append_right _ (List.mem_singleton.mpr rfl)), hk⟩
      · rintro ⟨e, m, z⟩
        rcases List.mem_append.mp (q1.mem_iff.mp m) with m | m
        · exact Or.inl ⟨e, m, z⟩
        · have e1 := List.mem_singleton.mp m
          subst e1
          exact Or.inr (knd.inj v i k z hk)
    have z1 : es1.size = es.size + 1 := by simpa using q1.length_eq
    have lt1 : es1.size < scanBound := by omega
    have le1 : es1.size ≤ n + 1 := by omega
    have tb1 : Tab w t1 := ⟨q3, tb.led.imp id fun z => q4.trans z⟩
    refine wpAny_bind (gw _ ?_)
    split
    · refine wpAny_bind ?_
      rw [hashByValue_scannable 8 hv]
      refine wpAny_pure (setX_tail (n := n + 1) (S' := fun j => S j ∨ j = k) (knd := knd) (fun b s₁ Q' q => gw b q) ho hx hd el1 ms1 lt1 ?_ le1 ?_ fun h' sb r => wpAny_pure (hQ h' _ sb r))
      · split
        · exact q2
        · exact SetTable.fits_plain_off q2
      · split
        · exact tb1
        · exact ⟨tb1.ris, tb1.led⟩
    · refine wpAny_bind (wpAny_pure ?_)
      simp only [↓reduceIte]
      exact setX_tail (n := n + 1) (S' := fun j => S j ∨ j = k) (knd := knd) (fun b s₁ Q' q => gw b q) ho hx hd el1 ms1 lt1 q2 le1 tb1 fun h' sb r => wpAny_pure (hQ h' _ sb r)
theorem SetX.typeIs (R : SetX knd s.heap a S n) : s.TypeIs (.ref a) "set" := by
  obtain ⟨o, _, _, _, ho, hx, _⟩ := R
  exact ⟨o, ho, hx.1⟩
theorem setX_add {k : κ} {v : Value} (hk : knd.is k v = true) (hv : v.scannable = true) {Q : Value → Shared → Prop} (R : SetX knd s.heap a S n) (room : n + 1 < scanBound)
    (hQ : ∀ h' tk, Heap.SameBut a s.heap h' → SetX knd h' a (fun j => S j ∨ j = k) (n + 1) → Q .none { s with heap := h', toks := tk }) :
    wpAny (model P w) A (call (.builtin "set.add") [.ref a, v]) Q E s := by
  refine wpAny_call_entry F.slot_set_add R.typeIs F.entry_set_add ?_ (F.args_set_add_2 _ _)
  unfold Builtin.«set.add» Builtin.Frozenset.oneOther Builtin.Frozenset.addrOf setAdd
  simp only [List.isEmpty_nil, bind_assoc]
  refine wpAny_bind (wpAny_pure ?_)
  try dsimp only
  refine wpAny_bind (wpAny_pure ?_)
  try dsimp only
  refine wpAny_bind (wpAny_holding (wpAny_bind (knd.pyHash hk ?_)))
  refine setX_hashed (s := { s with toks := s.toks + 1 }) hk hv R room fun h' b sb r => ?_
  show wpAny _ _ (ret Value.none) _ _ _
  exact wpAny_pure ⟨_, rfl, hQ h' _ sb r⟩
theorem setX_fresh (h : Heap) : SetX knd (h.push { cls := .type "set", dict := none, data := .set #[] 0 (.fresh 0 0 (!w.params.followText "set-order")) }) h.objs.size (fun _ => False) 0 := by
  refine ⟨_, #[], 0, _, Heap.get?_push_size _ rfl, ⟨rfl, rfl, rfl⟩, rfl, fun e he => by simp at he, fun k => by simp, by decide, by rfl, Nat.le_refl _, List.Pairwise.nil, ?_⟩
  show _ ∨ (!w.params.followText "set-order") = true
  cases w.params.followText "set-order"
  · exact Or.inr rfl
  · exact Or.inl rfl
end
end PL
namespace PL
open PySem PySem.Spec PyProof.Rows L2
/-! sorting: all that is known of the result is which items stand in it -/
theorem each_vals {β : Type} {val : β → V} : ∀ {us : List Value} {bs : List β}, PySem.W.EachIs (fun u b => RelV (val b) u) us bs → Vals (bs.map val) us
  | _, _, .nil => .nil
  | _, _, .cons a t => .cons a (each_vals t)
theorem vals_each {β : Type} {val : β → V} : ∀ {us : List Value} {bs : List β}, Vals (bs.map val) us → PySem.W.EachIs (fun u b => RelV (val b) u) us bs
  | us, [], r => by
    cases r
    exact .nil
  | us, b :: bs, r => by
    rw [List.map_cons] at r
    cases r with
    | cons a t => exact .cons a (vals_each t)
theorem each_imp {α β : Type} {F G : α → β → Prop} : ∀ {us : List α} {bs : List β}, PySem.W.EachIs F us bs → (∀ u b, b ∈ bs → F u b → G u b) → PySem.W.EachIs G us bs
  | _, _, .nil, _ => .nil
  | _, _, .cons a t, f => .cons (f _ _ List.mem_cons_self a) (each_imp t fun u b hb q => f u b (List.mem_cons_of_mem _ hb) q)
section
variable {X : Cx} {pins : List (Addr × Obj)} {σ : L2.St} {H : Hp} {s : Shared} {β : Type} {enc : β → PyData} {val : β → V} {bs : List β} {Q : VK}
/-- behind the collecting -/
theorem sort_behind {us : List Value} {E : Value → Shared → Prop} (I : Inv X pins σ H s) (rv : Vals (bs.map val) us) (rd : ∀ u b, b ∈ bs → RelV (val b) u → ∃ as, Reads s.heap u (enc b) as ∧ ∀ a ∈ as, a < s.heap.objs.size)
    (hal : PySem.W.AllAlike (bs.map enc)) (hk : PySem.W.Sortable (bs.map enc)) (hL : bs.length ≤ sizeLine) (hd : ∀ b ∈ bs, (enc b).depth ≤ 60) (hu : X.A.units + 64 < cLine)
    (h : ∀ bs' p, bs' = bs.mergeSort (PySem.W.dataLe false enc) → List.Perm bs' bs → H p = none → Q (.ref p) (upd H p (.lst (bs'.map val)))) {A' : Around} (hA : A'.units = X.A.units + 1) :
    wpAny (model X.prog X.w) A' (do
      let l ← newList us
      let _ ← holding [l] (call (.builtin "list.sort") [l])
      ret l) (fun fin s' => ∃ v, fin = .done (.ret v) ∧ EP X pins σ Q v s') E s := by
  have hlen : us.length = bs.length := by
    have := rv.length
    simpa using this.symm
  refine wpAny_bind (wpAny_newList ?_ (by rw [hlen]; exact hL))
  have ho : (s.heap.push { cls := .type "list", data := .seq us.toArray }).get? s.heap.objs.size = some (seqObj "list" us.toArray 0) := Heap.get?_push_size _ rfl
  have er := vals_each rv
  refine wpAny_bind (wpAny_holding (PySem.W.list_sort_data (s := { s with heap := s.heap.push { cls := .type "list", data := .seq us.toArray } }) (a := s.heap.objs.size) (n := 0) (vs := us) (bs := bs) (enc := enc) (R := fun u b => RelV (val b) u) ho er (each_imp er fun u b hb q => ?_) hal hk hL (fun b hb => ?_) fun out hol eo => ?_))
  · obtain ⟨as, r, lo⟩ := rd u b hb q
    exact ⟨as, Reads.keeps (fun _ _ e => Heap.get?_push_of_some _ e) r, fun z => absurd (lo _ z) (Nat.lt_irrefl _)⟩
  · have := hd b hb
    omega
  · obtain ⟨c, hc⟩ := sortedHeap_at (vs := us) (out := out.toArray) ho
    refine wpAny_pure ⟨_, rfl, .ref s.heap.objs.size, upd H s.heap.objs.size (.lst ((bs.mergeSort (PySem.W.dataLe false enc)).map val)), ?_, rfl, h _ _ rfl (List.mergeSort_perm _ _) (I.hok.fresh (Nat.le_refl _))⟩
    refine I.laid (t' := s.toks) (fun b o e => ?_) (Nat.le_refl _) ⟨by rw [List.length_map, List.length_mergeSort]; exact hL, out, c, each_vals eo, hc⟩
    have hlt := Heap.lt_size e
    rw [sortedHeap_old (Nat.ne_of_lt hlt) (by rw [Heap.size_push]; exact Nat.lt_succ_of_lt hlt)]
    exact Heap.get?_push_of_some _ e
end
/-! texts, and actions -/
def encA (x : V × Act) : PyData := .tuple [.str x.2.1, .str x.2.2.1, .str x.2.2.2]
theorem encA_alike (l : List (V × Act)) : PySem.W.AllAlike (l.map encA) := PySem.W.AllAlike.of fun b b' => by simp [encA, PySem.W.alike, PySem.W.alikeAll]
theorem encA_sort (l : List (V × Act)) : PySem.W.Sortable (l.map encA) := PySem.W.Sortable.tuples fun b => ⟨_, _, rfl⟩
theorem encS_alike (l : List Str) : PySem.W.AllAlike (l.map PyData.str) := PySem.W.AllAlike.of fun b b' => by simp [PySem.W.alike]
theorem encS_sort (l : List Str) : PySem.W.Sortable (l.map PyData.str) := PySem.W.Sortable.others fun b => ⟨(fun z => by cases z), (fun xs z => by cases z)⟩
theorem act_reads {P : Program} {w : World} {H : Hp} {h : Heap} {x : V × Act} {u : Value} (ok : HOk P w H h) (hx : RAct H x.1 x.2) (r : RelV x.1 u) : ∃ as, Reads h u (encA x) as ∧ ∀ a ∈ as, a < h.objs.size := by
  obtain ⟨p, ep, hp⟩ := hx
  rw [ep] at r
  cases (show u = Value.ref p from r)
  obtain ⟨_, its, rv, o, h1, h2, n, h3⟩ := (show ObjOk P w H h p (.tup (actV x.2)) from ok p _ hp)
  cases rv with
  | cons r1 rv =>
    cases rv with
    | cons r2 rv =>
      cases rv with
      | cons r3 rv =>
        cases rv
        obtain ⟨t1, rfl⟩ := r1
        obtain ⟨t2, rfl⟩ := r2
        obtain ⟨t3, rfl⟩ := r3
        exact ⟨_, .tuple h1 h2 h3 (.cons (.str _ _) (.cons (.str _ _) (.cons (.str _ _) .nil))), by simp⟩
section
variable {X : Cx}
theorem zip_map {F : V → Act → Prop} : ∀ {vs : List V} {as : List Act}, Paired F vs as → (vs.zip as).map Prod.fst = vs ∧ (vs.zip as).map Prod.snd = as ∧ ∀ x ∈ vs.zip as, F x.1 x.2
  | _, _, .nil => ⟨rfl, rfl, by simp⟩
  | _, _, .cons (a := v) (b := a) h t => by
    obtain ⟨e1, e2, e3⟩ := zip_map t
    refine ⟨by simp [e1], by simp [e2], fun x hx => ?_⟩
    rw [List.zip_cons_cons] at hx
    rcases List.mem_cons.mp hx with e | hx
    · subst e; exact h
    · exact e3 x hx
/-- sorted(a list of actions) -/
def rSortA (K : PySem.W.Frag) : List V → Hp → VK → Prop := fun xs H Q => ∃ a vs as, xs = [.ref a] ∧ SqL K H a vs ∧ Paired (RAct H) vs as ∧ as.length ≤ 1000000 ∧ ∀ vs' as' p, List.Perm as' as → Paired (RAct H) vs' as' → H p = none → Q (.ref p) (upd H p (.lst vs'))
theorem pair_back {H : Hp} : ∀ {bs : List (V × Act)}, (∀ x ∈ bs, RAct H x.1 x.2) → Paired (RAct H) (bs.map Prod.fst) (bs.map Prod.snd)
  | [], _ => .nil
  | b :: bs, h => .cons (h b List.mem_cons_self) (pair_back fun x hx => h x (List.mem_cons_of_mem _ hx))
theorem encA_depth (x : V × Act) : (encA x).depth ≤ 60 := by simp [encA, PyData.depth, PyData.depthAll]
theorem cr_sortA (hu : X.A.units + 64 < cLine) : CallR X (.builtin "sorted") (rSortA X.K) := by
  intro pins s σ H xs us Q I r ⟨a, vs, as, ex, hq, hp, hl, q⟩
  subst ex
  obtain ⟨u, eu, ru⟩ := vals1 r
  subst eu
  cases (show u = Value.ref a from ru)
  obtain ⟨its, rv, pl, hz⟩ := I.list hq
  obtain ⟨e1, e2, e3⟩ := zip_map hp
  have rv' : Vals ((vs.zip as).map Prod.fst) its := by rw [e1]; exact rv
  have hlen : (vs.zip as).length = as.length := by rw [← congrArg List.length e2, List.length_map]
  have er := vals_each rv'
  refine PySem.W.sorted_data (R := fun u b => RelV b.1 u) pl.isList er (each_imp er fun u b hb q => ?_) (encA_alike _) (encA_sort _) (by rw [hlen, sizeLine_eq]; omega) (fun b _ => by have := encA_depth b; omega) fun out ho eo => ?_
  · obtain ⟨as', r', _⟩ := act_reads I.hok (e3 b hb) q
    exact ⟨as', r'⟩
  · obtain ⟨c, hc⟩ := sortedAll_at s.heap its out.toArray
    have pm := List.mergeSort_perm (vs.zip as) (PySem.W.dataLe false encA)
    refine ⟨.ref (s.heap.objs.size + 1), upd H (s.heap.objs.size + 1) (.lst (((vs.zip as).mergeSort (PySem.W.dataLe false encA)).map Prod.fst)), I.laid (t' := s.toks) (fun _ _ e => sortedAll_old e) (Nat.le_succ _) ⟨?_, out, c, each_vals eo, hc⟩, rfl, q _ (((vs.zip as).mergeSort (PySem.W.dataLe false encA)).map Prod.snd) _ ?_ ?_ (I.hok.fresh (Nat.le_succ _))⟩
    · rw [List.length_map, List.length_mergeSort, hlen, sizeLine_eq]
      omega
    · have e4 := pm.map Prod.snd
      rw [e2] at e4
      exact e4
    · exact pair_back fun x hx => e3 x (pm.mem_iff.mp hx)
def encB (a : Act) : PyData := .tuple [.str a.1, .str a.2.1, .str a.2.2]
/-- actions in their order -/
def sA (as : List Act) : List Act := as.mergeSort (PySem.W.dataLe false encB)
theorem sA_zip (zs : List (V × Act)) : (zs.mergeSort (PySem.W.dataLe false encA)).map Prod.snd = sA (zs.map Prod.snd) :=
  List.map_mergeSort (r := PySem.W.dataLe false encA) (s := PySem.W.dataLe false encB) (f := Prod.snd) (l := zs) fun _ _ _ _ => rfl
/-- sorted(a dict whose keys are actions) -/
def rSortD : List V → Hp → VK → Prop := fun xs H Q => ∃ a kvs as, xs = [.ref a] ∧ Rd H a (.dT kvs) ∧ kvs.map (·.1) = as.map actK ∧ as.length ≤ 1000000 ∧ ∀ vs' as' p, as' = sA as → List.Perm as' as → Paired (RAct H) vs' as' → H p = none → Q (.ref p) (upd H p (.lst vs'))
theorem cr_sortD (hcalm : X.calm = true) (hu : X.A.units + 64 < cLine) : CallR X (.builtin "sorted") rSortD := by
  intro pins s σ H xs us Q I r ⟨a, kvs, as, ex, hd, hks, hl, q⟩
  subst ex
  obtain ⟨u, eu, ru⟩ := vals1 r
  subst eu
  cases (show u = Value.ref a from ru)
  obtain ⟨z, lo, xs, rel, dd⟩ := dt_rd I.hok hd
  obtain ⟨es, ep, raw, hsz, hes⟩ := dd.raw
  have hn : es.size = as.length := by
    rw [hsz, ← plen rel]
    have := congrArg List.length hks
    simpa using this
  refine Calls.call_function_entry PyProof.Rows.kind_sorted PyProof.Rows.plain_sorted PyProof.Rows.entry_sorted (PyProof.Rows.args_sorted1 _) ?_
  unfold Builtin.«sorted»
  refine wpAny_bind (m := checkCount "sorted" 1 1 _) (wpAny_pure ?_)
  refine wpAny_bind (PySem.W.kdu_collect (A := X.A.in1) (PySem.KdlSrc.rawDict lo) (I.ok.hd hcalm) raw (by rw [hn, sizeLine_eq]; omega) fun h' tk acc hk hacc => ?_)
  have I1 : Inv X pins σ H { s with heap := h', toks := tk } := I.kept hk
  -- the keys as values
  have key : ∀ (j : Nat) (v : Value), acc.toList[j]? = some v → ∃ (x : Act) (p : Addr), as[j]? = some x ∧ v = Value.ref p ∧ H p = some (.tup (actV x)) := by
    intro j v e
    obtain ⟨hj, ev⟩ := hacc.2 j v (by rw [← Array.getElem?_toList]; exact e)
    obtain ⟨y, hy, k1, _, _⟩ := hes j hj
    obtain ⟨kv, hkv, f1, f2, _⟩ := pget' rel hy
    have e3 : (kvs.map (·.1))[j]? = some kv.1 := by rw [List.getElem?_map, hkv]; rfl
    rw [hks, List.getElem?_map] at e3
    cases e4 : as[j]? with
    | none => rw [e4] at e3; cases e3
    | some x =>
      rw [e4] at e3
      have e5 : actK x = kv.1 := Option.some.inj e3
      refine ⟨x, y.2.1, rfl, ev.trans k1, ?_⟩
      rw [← actK_V, e5]
      exact f2
  have hal : acc.toList.length = as.length := by
    rw [Array.length_toList, hacc.1, hn]
  have build : ∀ (us : List Value) (bs : List Act), us.length = bs.length → (∀ (j : Nat) (v : Value), us[j]? = some v → ∃ (x : Act) (p : Addr), bs[j]? = some x ∧ v = Value.ref p ∧ H p = some (.tup (actV x))) → ∃ zs : List (V × Act), zs.map Prod.snd = bs ∧ Vals (zs.map Prod.fst) us ∧ ∀ z ∈ zs, RAct H z.1 z.2 := by
    intro us
    induction us with
    | nil =>
      intro bs hl _
      have : bs = [] := List.length_eq_zero_iff.mp hl.symm
      subst this
      exact ⟨[], rfl, .nil, by simp⟩
    | cons v us ih =>
      intro bs hl hh
      cases bs with
      | nil => simp at hl
      | cons b bs =>
        obtain ⟨zs, z1, z2, z3⟩ := ih bs (by simpa using hl) fun j w e => hh (j + 1) w (by simpa using e)
        obtain ⟨x, p, e1, e2, e3⟩ := hh 0 v rfl
        have e1 : b = x := Option.some.inj e1
        subst e1 e2
        refine ⟨(.ref p, b) :: zs, by simp [z1], .cons rfl z2, fun z hz => ?_⟩
        rcases List.mem_cons.mp hz with e | hz
        · subst e; exact ⟨p, rfl, e3⟩
        · exact z3 z hz
  obtain ⟨zs, z1, z2, z3⟩ := build acc.toList as hal key
  have hlz : zs.length = as.length := by rw [← z1, List.length_map]
  refine wpAny_mono (sort_behind (Q := Q) (val := Prod.fst) (enc := encA) I1 z2 (fun u b hb r' => act_reads I1.hok (z3 b hb) r') (encA_alike _) (encA_sort _) (by rw [hlz, sizeLine_eq]; omega) (fun b _ => encA_depth b) hu (fun bs' p eb pm np => ?_) (A' := X.A.in1) (Around.in1_units _)) (fun fin s' h => h) (fun _ _ e => e)
  exact q _ (bs'.map Prod.snd) p (by rw [eb, sA_zip, z1]) (by rw [← z1]; exact pm.map Prod.snd) (pair_back fun x hx => z3 x (pm.mem_iff.mp hx)) np
/-- a set of keys at a, for walks -/
def SXo (P : Program) (w : World) (a : Addr) (S : L2.Key → Prop) (n : Nat) : HO := .ext fun h => SetX (mixKind P w) h a S n
theorem sxo_new {P : Program} {w : World} {H : Hp} {h : Heap} {a : Addr} {S : L2.Key → Prop} {n : Nat} (R : SetX (mixKind P w) h a S n) : ObjOk P w H h a (SXo P w a S n) := by
  refine ⟨R, ?_, fun g1 g2 q k => ?_⟩
  · obtain ⟨o, _, _, _, ho, _⟩ := R
    exact ⟨o, ho⟩
  · obtain ⟨o, es, ep, t, ho, r⟩ := q
    exact ⟨o, es, ep, t, k o ho, r⟩
/-- sorted(a set of texts): its members -/
def rSortS (P : Program) (w : World) : List V → Hp → VK → Prop := fun xs H Q => ∃ (a : Addr) (S : Str → Prop) (n : Nat), xs = [.ref a] ∧ H a = some (SXo P w a (fun k => ∃ z, k = .inr z ∧ S z) n) ∧ n ≤ 4000 ∧
  ∀ (ys : List Str) (p : Addr), (∀ z, z ∈ ys ↔ S z) → ys.length ≤ 4000 → H p = none → Q (.ref p) (upd H p (.lst (ys.map V.str)))
theorem cr_sortS (hcalm : X.calm = true) (hu : X.A.units + 64 < cLine) : CallR X (.builtin "sorted") (rSortS X.prog X.w) := by
  intro pins s σ H xs us Q I r ⟨a, S, n, ex, ha, hn, q⟩
  subst ex
  obtain ⟨u, eu, ru⟩ := vals1 r
  subst eu
  cases (show u = Value.ref a from ru)
  obtain ⟨o, es, ep, t, ho, hx, hd, el, ms, lt, ft, le, tb⟩ := (I.hok a _ ha).1
  refine Calls.call_function_entry PyProof.Rows.kind_sorted PyProof.Rows.plain_sorted PyProof.Rows.entry_sorted (PyProof.Rows.args_sorted1 _) ?_
  unfold Builtin.«sorted»
  refine wpAny_bind (m := checkCount "sorted" 1 1 _) (wpAny_pure ?_)
  refine wpAny_bind (collect_set (A := X.A.in1) (I.ok.hd hcalm) ⟨o, ho, hx.1, hd⟩ ft lt tb.ris tb.led fun s1 out k1 hz g1 o1 pm => ?_)
  have I1 : Inv X pins σ H s1 := I.call' (ch := []) o1 (Un.kept k1) (I.hok.kept k1) (by rw [g1]; exact I.bare) (fun _ z => nomatch z)
  -- each a text of the set
  have txt : ∀ v ∈ out, ∃ z tk, v = Value.str z tk ∧ S z := by
    intro v hv
    obtain ⟨e, he, ev⟩ := List.mem_map.mp (pm.mem_iff.mp hv)
    obtain ⟨⟨k, hk, _⟩, _⟩ := el e he
    obtain ⟨z, ek, hS⟩ := (ms k).mpr ⟨e, he, hk⟩
    subst ek
    rw [ev] at hk
    rcases keyIs_shape (show keyIs (Sum.inr z) v = true from hk) with ⟨_, _, b1, _⟩ | ⟨z', tk, b1, b2⟩
    · cases b1
    · cases b1
      exact ⟨z, tk, b2, hS⟩
  have build : ∀ (us : List Value), (∀ v ∈ us, ∃ z tk, v = Value.str z tk ∧ S z) → ∃ zs : List Str, Vals (zs.map V.str) us ∧ (∀ z ∈ zs, S z) ∧ ∀ v ∈ us, ∀ z tk, v = Value.str z tk → z ∈ zs := by
    intro us
    induction us with
    | nil => exact fun _ => ⟨[], .nil, by simp, by simp⟩
    | cons v us ih =>
      intro hh
      obtain ⟨zs, a1, a2, a3⟩ := ih fun v hv => hh v (List.mem_cons_of_mem _ hv)
      obtain ⟨z, tk, ev, hS⟩ := hh v List.mem_cons_self
      subst ev
      refine ⟨z :: zs, .cons ⟨tk, rfl⟩ a1, fun y hy => ?_, fun v hv y tk' e => ?_⟩
      · rcases List.mem_cons.mp hy with e | hy
        · subst e; exact hS
        · exact a2 y hy
      · rcases List.mem_cons.mp hv with e' | hv
        · rw [e] at e'
          cases e'
          exact List.mem_cons_self
        · exact List.mem_cons_of_mem _ (a3 v hv y tk' e)
  obtain ⟨zs, a1, a2, a3⟩ := build out txt
  have hlz : zs.length ≤ 4000 := by
    have e1 := a1.length
    have e2 := pm.length_eq
    have e4 : scanBound = 4096 := rfl
    simp only [List.length_map, Array.length_toList] at e1 e2
    omega
  refine wpAny_mono (sort_behind (Q := Q) (val := V.str) (enc := PyData.str) I1 a1 (fun u b hb r' => ?_) (encS_alike _) (encS_sort _) (by rw [sizeLine_eq]; omega) (fun b _ => by simp [PyData.depth]) hu (fun bs' p _ pm' np => ?_) (A' := X.A.in1) (Around.in1_units _)) (fun fin s' h => h) (fun _ _ e => e)
  · obtain ⟨tk, rfl⟩ := (show ∃ t, u = Value.str b t from r')
    exact ⟨[], .str _ _, by simp⟩
  · refine q bs' p (fun z => ?_) (by rw [pm'.length_eq]; omega) np
    rw [pm'.mem_iff]
    refine ⟨a2 z, fun hS => ?_⟩
    obtain ⟨e, he, hk⟩ := (ms (.inr z)).mp ⟨z, rfl, hS⟩
    have hm : e.2 ∈ out := pm.mem_iff.mpr (List.mem_map.mpr ⟨e, he, rfl⟩)
    rcases keyIs_shape (show keyIs (Sum.inr z) e.2 = true from hk) with ⟨_, _, b1, _⟩ | ⟨z', tk, b1, b2⟩
    · cases b1
    · cases b1
      exact a3 _ hm z tk b2
end
end PL
namespace PL
open PySem PySem.Spec PyProof.Rows L2
section
variable {prog : Program} {w : World} {A : Around} {E : Value → Shared → Prop} {s : Shared}
/-- the next key, as enumerate asks it -/
theorem keys_more {it d : Addr} {i ep : Nat} {es : Array DictEntry} {Q : Value → Shared → Prop} (hit : s.heap.IsKeyIter it d i es.size ep) (hm : s.heap.DictRaw d es ep) (hlt : i < es.size)
    (hQ : ∀ g, g.IsKeyIter it d (i + 1) es.size ep → Heap.SameBut it s.heap g → Q es[i].key { s with heap := g }) :
    wpAny (model prog w) A (Builtin.SmallTypes.nextOf (.ref it)) Q E s := by
  obtain ⟨oi, gi, ci, di⟩ := id hit
  obtain ⟨od, gd, cd, dd⟩ := id hm
  unfold Builtin.SmallTypes.nextOf
  refine wpAny_bind (wpAny_callSpecial?_slot (name := Str.ofString "__next__") hit.typeIs F.slot_dict_keyiterator_next (wpAny_call_entry F.slot_dict_keyiterator_next hit.typeIs F.entry_dict_keyiterator_next ?_ (F.args_dict_keyiterator_next_1 _)))
  have own : Builtin.Dict_items.ownsTuple "dict_keyiterator" = false := by decide
  have after : (s.heap.update it (Obj.mapFields (·.setIfInBounds 1 (rawInt ((i : Int) + 1))))).IsKeyIter it d (i + 1) es.size ep :=
    ⟨_, Heap.get?_update_self _ gi (Obj.isFreed_of_fields (Obj.data_mapFields di _)), (Obj.cls_mapFields ..).trans ci, by rw [Obj.data_mapFields di]; simp [rawInt]⟩
  have nn : ¬ ((Value.ref d == Value.none) = true) := Bool.false_ne_true
  refine wpAny_bind (wpAny_pure (wpAny_bind (wpAny_bind (wpAny_bind (wpAny_typeNameOfWhole_keyiter hit.typeIs (wpAny_pure (wpAny_bind (wpAny_fieldsOf gi di ?_))))))))
  simp only [own, Bool.false_eq_true, if_false]
  show wpAny _ _ (if (Value.ref d == Value.none) = true then _ else _) _ _ s
  rw [if_neg nn]
  refine wpAny_bind (wpAny_pure (wpAny_bind (wpAny_dictEntries gd dd ?_)))
  rw [if_neg (by simp)]
  refine wpAny_bind (wpAny_pure (wpAny_bind (wpAny_dictEpoch gd dd ?_)))
  rw [if_neg (by simp)]
  refine wpAny_pure ?_
  have ni : ¬ ((i : Int) < 0) := by omega
  simp only [ni, if_false, Int.toNat_natCast, Array.getElem?_eq_getElem hlt]
  refine wpAny_bind (wpAny_bind (wpAny_typeNameOfWhole_keyiter hit.typeIs (wpAny_pure (wpAny_bind (wpAny_isOneOf_keyiter hit.typeIs ?_)))))
  show wpAny _ _ (setField (.ref it) 1 (rawInt ((i : Int) + 1)) >>= _) _ _ s
  refine wpAny_bind (wpAny_setField gi di (by simp) (wpAny_bind (wpAny_holding (wpAny_bind (wpAny_isOneOf_keyiter (s := { s with heap := s.heap.update it (Obj.mapFields (·.setIfInBounds 1 (rawInt ((i : Int) + 1)))) }) after.typeIs ?_)))))
  show wpAny _ _ (pure es[i].key) _ _ _
  exact wpAny_pure (wpAny_pure ⟨es[i].key, rfl, wpAny_pure (hQ _ after (Heap.SameBut.update ..))⟩)
/-- no key is left -/
theorem keys_over {it d : Addr} {i ep : Nat} {es : Array DictEntry} {Q : Value → Shared → Prop} (hh : A.handled = none) (hit : s.heap.IsKeyIter it d i es.size ep) (hm : s.heap.DictRaw d es ep) (hge : es.size ≤ i)
    (hE : ∀ g e, Heap.ExtBut it s.heap g → (∃ o, g.get? e = some o ∧ o.cls = .type "StopIteration") → E (.ref e) { s with heap := g }) :
    wpAny (model prog w) A (Builtin.SmallTypes.nextOf (.ref it)) Q E s := by
  obtain ⟨oi, gi, ci, di⟩ := id hit
  obtain ⟨od, gd, cd, dd⟩ := id hm
  unfold Builtin.SmallTypes.nextOf
  refine wpAny_bind (wpAny_callSpecial?_slot (name := Str.ofString "__next__") hit.typeIs F.slot_dict_keyiterator_next (wpAny_call_entry F.slot_dict_keyiterator_next hit.typeIs F.entry_dict_keyiterator_next ?_ (F.args_dict_keyiterator_next_1 _)))
  have own : Builtin.Dict_items.ownsTuple "dict_keyiterator" = false := by decide
  have nn : ¬ ((Value.ref d == Value.none) = true) := Bool.false_ne_true
  refine wpAny_bind (wpAny_pure (wpAny_bind (wpAny_bind (wpAny_bind (wpAny_typeNameOfWhole_keyiter hit.typeIs (wpAny_pure (wpAny_bind (wpAny_fieldsOf gi di ?_))))))))
  simp only [own, Bool.false_eq_true, if_false]
  show wpAny _ _ (if (Value.ref d == Value.none) = true then _ else _) _ _ s
  rw [if_neg nn]
  refine wpAny_bind (wpAny_pure (wpAny_bind (wpAny_dictEntries gd dd ?_)))
  rw [if_neg (by simp)]
  refine wpAny_bind (wpAny_pure (wpAny_bind (wpAny_dictEpoch gd dd ?_)))
  rw [if_neg (by simp)]
  refine wpAny_pure ?_
  have ni : ¬ ((i : Int) < 0) := by omega
  simp only [ni, if_false, Int.toNat_natCast, Array.getElem?_eq_none hge]
  refine wpAny_bind (wpAny_bind (wpAny_typeNameOfWhole_keyiter hit.typeIs (wpAny_pure ?_)))
  show wpAny _ _ (setField (.ref it) 0 .none >>= _) _ _ s
  refine wpAny_bind (wpAny_setField gi di (by simp) ?_)
  show wpAny _ _ (newExc (.type "StopIteration") [] >>= _) _ _ _
  simp only [newExc, newTuple]
  refine wpAny_bind (wpAny_bind (wpAny_newObj_type (wpAny_bind (m := firstArgMember _ _) (wpAny_of_eq (a := Value.none) (by first | rfl | (simp only [firstArgMember]; rfl)) (wpAny_newObj_type ?_ (by size_fits)))) (by size_fits)))
  simp only [raiseNew]
  refine wpAny_bind (wpAny_handled ?_)
  rw [show A.in1.handled = none from hh]
  refine wpAny_bind (wpAny_pure (wpAny_throw (hE _ _ (((Heap.SameBut.update ..).extBut.push _).push _) ⟨_, Heap.get?_push_size _ rfl, rfl⟩)))
/-- a dict's keys as enumerate draws them -/
theorem draws_keys (hh : A.handled = none) (it d : Addr) (hne : d ≠ it) (es : Array DictEntry) (ep : Nat) :
    Draws prog w A it [it, d] es.size (fun i v => ∃ h : i < es.size, v = es[i].key) (fun i h => h.IsKeyIter it d i es.size ep ∧ h.DictRaw d es ep) where
  live := fun _ _ st => let ⟨o, ho, _⟩ := st.1; ⟨o, ho⟩
  frame := fun _ _ _ st hk => ⟨let ⟨o, ho, r⟩ := st.1; ⟨o, hk it (by simp) o ho, r⟩, st.2.at fun o e => hk d (by simp) o e⟩
  item := fun i s Q E hi st hQ => keys_more st.1 st.2 hi fun g a b => hQ _ g s.toks ⟨hi, rfl⟩ ⟨a, st.2.at fun o e => (b.2 d hne).trans e⟩ b
  done := fun s Q E st hE => keys_over hh st.1 st.2 (Nat.le_refl _) hE
theorem begins_dict (d : Addr) (hd : (d == sysModules) = false) (es : Array DictEntry) (ep : Nat) : Begins (.ref d) { cls := .type "dict_keyiterator", data := .fields #[.ref d, .int 0 0, .int es.size 0, .int ep 0] } fun h => h.DictRaw d es ep where
  iter := fun prog w A E s Q hl h => wpAny_pyIter_dict_raw hd hl h
  keeps := fun h h' x hk => x.at fun o e => hk d o e
  free := rfl
/-- enumerate(v) -/
theorem meets_enum1 {v : Value} {o : Obj} {H : Heap → Prop} (B : Begins v o H) :
    Meets (Builtin.«enumerate.__new__» ⟨[.type "enumerate", v], []⟩) (fun _ R s => H s.heap ∧
      R (.ok (.ret (.ref (s.heap.push o).objs.size))) { s with heap := (s.heap.push o).push { cls := .type "enumerate", data := .fields #[.none, .bool false, .ref s.heap.objs.size, rawInt 0, .none, .none] } }) :=
  .of_wp fun prog w A R s h => by
    obtain ⟨hp, g, d, tk, os⟩ := s
    obtain ⟨h1, h⟩ := h
    have hsub := sub_enumerate
    have it : ∀ (A : Around) (E : Value → Shared → Prop) (Q : Value → Shared → Prop), Q (.ref hp.objs.size) ⟨hp.push o, g, d, tk, os⟩ → wpAny (model prog w) A (pyIter v) Q E ⟨hp, g, d, tk, os⟩ := fun A E Q q => B.iter prog w A E ⟨hp, g, d, tk, os⟩ Q h1 q
    wp_walk
    refine wpAny_stack_any fun st => wpAny_pure ?_
    split
    · rename_i c _ _ _ _ _
      cases (c == Value.type "enumerate")
      · wp_walk using it
        exact ⟨_, rfl, h⟩
      · wp_walk using it
        exact ⟨_, rfl, h⟩
    · wp_walk using it
      exact ⟨_, rfl, h⟩
theorem call_enum1 {v : Value} {o : Obj} {H : Heap → Prop} {Q : Value → Shared → Prop} (B : Begins v o H) (h1 : H s.heap)
    (h : ∀ h', IsEnum h' (s.heap.objs.size + 1) s.heap.objs.size 0 .none → h'.get? s.heap.objs.size = some o → h'.objs.size = s.heap.objs.size + 2 →
      (∀ b o, s.heap.get? b = some o → h'.get? b = some o) → Q (.ref (s.heap.objs.size + 1)) { s with heap := h' }) :
    wpAny (model prog w) A (call (.type "enumerate") [v]) Q E s := by
  refine callType_new F.called_enumerate (by decide) (F.typeCall_enumerate_1 _) (F.newCall_enumerate_1 _) (fun obj => F.args_object_init_2 obj _) F.entry_enumerate_new (meets_enum1 B) ⟨h1, ?_⟩
  have z1 : (s.heap.push o).objs.size = s.heap.objs.size + 1 := Heap.size_push ..
  have here := Heap.get?_push_size (s.heap.push o) (o := { cls := .type "enumerate", data := .fields #[.none, .bool false, .ref s.heap.objs.size, rawInt 0, .none, .none] }) rfl
  show _ ∧ _
  rw [z1] at here ⊢
  exact ⟨⟨_, here, rfl⟩, h _ here (Heap.get?_push_of_some _ (Heap.get?_push_size _ B.free)) (by rw [Heap.size_push, z1]) fun b o x => Heap.get?_push_of_some _ (Heap.get?_push_of_some _ x)⟩
end
end PL
namespace PL
open PySem PySem.Spec PyProof.Rows L2
/-! for i, x in enumerate(a tuple, a dict) -/
def Jen (n : Nat) (Src : Hp → Prop) (YV : Nat → V → Prop) : It :=
  ⟨fun i H => i < n ∧ Src H, fun i H v H' => ∃ T y, v = .ref T ∧ H T = none ∧ H' = upd H T (.tup [.int (i : Nat), y]) ∧ YV i y, fun i H => n ≤ i ∧ Src H⟩
theorem walk_en {n : Nat} {Src : Hp → Prop} {YV : Nat → V → Prop} : L2.Walk (Jen n Src YV) n Src (fun i H v H' => ∃ T y, v = .ref T ∧ H T = none ∧ H' = upd H T (.tup [.int (i : Nat), y]) ∧ YV i y) :=
  ⟨fun _ _ hi q => ⟨hi, q⟩, fun _ q => ⟨Nat.le_refl _, q⟩, fun _ _ _ _ _ _ y => y⟩
theorem turn_en {P : Program} {w : World} {K : PySem.W.Frag} {elts : List Expr} {kk : Nat} {tpos : Pos} {e it : Addr} {n : Nat} {Lc : Nat → Heap → Prop} {SH : Heap → Prop} {PV : Nat → Value → Prop} {YV : Nat → V → Prop} {Src : Hp → Prop} {fs : List Addr}
    (D : ∀ A : Around, A.handled = none → Draws P w A it fs n PV (fun i h => Lc i h ∧ SH h)) (hob : ∀ i h, Lc i h → ∃ o, h.get? it = some o ∧ ∀ v, o.data ≠ .cell v) (hlc : ∀ i h h', Lc i h → (∀ o, h.get? it = some o → h'.get? it = some o) → Lc i h')
    (hsrc : ∀ (X : Cx) (pins : List (Addr × Obj)) (σ : L2.St) (H : Hp) (s : Shared), X.prog = P → X.w = w → Inv X pins σ H s → Src H → SH s.heap) (hval : ∀ i x, PV i x → ∃ y, RelV y x ∧ YV i y) (hne : e ≠ it) (hef : e ∉ fs) :
    Turn P w K (.Tuple elts kk tpos) (Jen n Src YV) [e, it] e (fun i h => (∃ old, IsEnum h e it ((i : Nat) : Int) old) ∧ Lc i h ∧ i ≤ n) where
  mem := by simp
  obj := fun i h st b hb => by
    obtain ⟨⟨old, he⟩, hl, _⟩ := st
    rcases (show b = e ∨ b = it by simpa using hb) with z | z
    · subst z; exact ⟨_, he, fun v q => nomatch q⟩
    · subst z; exact hob _ _ hl
  keep := fun i h h' ⟨⟨old, he⟩, hl, hi⟩ k => ⟨⟨old, k e (by simp) _ he⟩, hlc _ _ _ hl fun o q => k it (by simp) o q, hi⟩
  item := by
    intro X hP hw hK hc i pins s σ H E I hf ⟨⟨old, he⟩, hl, hi⟩ ⟨hlt, hg⟩
    have hS := hsrc X pins σ H s hP hw I hg
    subst hP hw
    have hel : e < s.heap.objs.size := Heap.lt_size he
    have hil : it < s.heap.objs.size := by obtain ⟨o, q, _⟩ := hob _ _ hl; exact Heap.lt_size q
    refine wpAny_pyNext_enum_itemC (D X.A.in1 (I.ok.hd hc)) he ⟨hl, hS⟩ hlt hne hef fun x h' tk hp ho hst hT hsz hk => ⟨_, rfl, wpAny_letOwnedTupleGo_enum (s := { s with heap := h', toks := tk + 1 }) ho fun h'' he' sb => ?_⟩
    obtain ⟨y, ry, hy⟩ := hval i x hp
    have hT2 : h''.get? s.heap.objs.size = some { cls := .type "tuple", data := .seq #[.int i tk, x] } := (sb.2 _ (Nat.ne_of_gt hel)).trans hT
    have I1 : Inv X pins σ (upd H s.heap.objs.size (.tup [.int (i : Nat), y])) { s with heap := h'', toks := tk + 1 } := by
      refine I.turnedNew (ch := [e, it]) (fun b ob hb q => ?_) hf (Nat.le_refl _) ⟨by show 2 ≤ sizeLine; decide, [.int i tk, x], .cons ⟨_, rfl⟩ (.cons ry .nil), ⟨_, hT2, rfl, _, rfl⟩⟩
      have n1 : b ≠ e := fun z => hb (by simp [z])
      have n2 : b ≠ it := fun z => hb (by simp [z])
      exact (sb.2 b n1).trans (hk b ob n1 n2 q)
    refine ⟨.ref s.heap.objs.size, _, I1, rfl, ⟨_, y, rfl, I.hok.fresh (Nat.le_refl _), rfl, hy⟩, ⟨⟨x, ?_⟩, hlc _ _ _ hst.1 fun o q => (sb.2 it (Ne.symm hne)).trans q, hlt⟩, fun b hb => ?_⟩
    · rw [show ((i + 1 : Nat) : Int) = (i : Int) + 1 by omega]
      exact he'
    · have lo : b < s.heap.objs.size := by
        rcases (show b = e ∨ b = it by simpa using hb) with z | z
        · exact z ▸ hel
        · exact z ▸ hil
      rw [upd_ne (Nat.ne_of_lt lo)]
      exact (hf b hb).1
  done := by
    intro X hP hw hK hc i pins s σ H E I hf ⟨⟨old, he⟩, hl, hi⟩ ⟨hge, hg⟩
    have hS := hsrc X pins σ H s hP hw I hg
    subst hP hw
    have ei : i = n := Nat.le_antisymm hi hge
    subst ei
    obtain ⟨f0, f1, f2, f3, f4, f5⟩ := hf it (by simp)
    exact wpAny_pyNext_enum_endD (D X.A.in1 (I.ok.hd hc)) he ⟨hl, hS⟩ fun h' eb => ⟨rfl, I.turned (t' := s.toks) (fun b o hb q => eb b o hb q) f0 f1 f3 f4 f5⟩
  self := fun A i s Q E ⟨⟨_, he⟩, _, _⟩ h => wpAny_pyIter_enum he h
theorem draws_tup {P : Program} {w : World} {A : Around} (hh : A.handled = none) (it a : Addr) (hne : a ≠ it) (xs : List V) :
    Draws P w A it [it, a] xs.length (fun i v => ∃ y, xs[i]? = some y ∧ RelV y v) (fun i h => h.IsTupleIter it a i ∧ ∃ its : List Value, Vals xs its ∧ h.IsTuple a its.toArray) where
  live := fun _ _ st => let ⟨o, ho, _⟩ := st.1; ⟨o, ho⟩
  frame := fun _ _ _ ⟨a1, its, rv, a2⟩ hk => ⟨a1.at fun o e => hk it (by simp) o e, its, rv, a2.at fun o e => hk a (by simp) o e⟩
  item := fun i s Q E hi ⟨a1, its, rv, a2⟩ hQ => by
    obtain ⟨u, e1, e2⟩ := rv.get (List.getElem?_eq_getElem hi)
    exact wpAny_nextOf_tuple_item a1 a2 (x := u) (by simpa using e1) fun g b1 b2 => hQ u g s.toks ⟨xs[i], List.getElem?_eq_getElem hi, e2⟩ ⟨b1, its, rv, a2.at fun o e => (b2.2 a hne).trans e⟩ b2
  done := fun s Q E ⟨a1, its, rv, a2⟩ hE => wpAny_nextOf_tuple_end hh a1 a2 (by have := rv.length; simp [← this]) hE
theorem addr_fs {a e it : Addr} (h1 : a < it) (h2 : e = it + 1) : e ∉ [it, a] := by
  subst h2
  intro z
  rcases List.mem_cons.mp z with z | z
  · exact Nat.succ_ne_self _ z
  · have z : it + 1 = a := by simpa using z
    have h1 : a < it := h1
    subst z
    exact Nat.not_succ_le_self _ (Nat.le_of_succ_le h1)
theorem two_fp {X : Cx} {pins : List (Addr × Obj)} {σ : L2.St} {H : Hp} {s : Shared} (I : Inv X pins σ H s) : ∀ b ∈ [s.heap.objs.size + 1, s.heap.objs.size], FpOk X pins H b := by
  intro b hb
  have hle : s.heap.objs.size ≤ b := by
    rcases (show b = s.heap.objs.size + 1 ∨ b = s.heap.objs.size by simpa using hb) with z | z
    · rw [z]; exact Nat.le_succ _
    · rw [z]; exact Nat.le_refl _
  exact I.fpOk hle (I.hok.fresh hle)
section
variable {X : Cx} {e : Expr} {ta : TA} {p pos tpos : Pos} {elts : List Expr} {kk : Nat}
/-- over a tuple -/
def iEnT (ta : TA) : TI := fun σ H R => ta σ H fun vs H1 => ∃ a xs, vs = [.ref a] ∧ H1 a = some (.tup xs) ∧ R (Jen xs.length (fun H => H a = some (.tup xs)) (fun i y => xs[i]? = some y)) H1
theorem pi_enT (hg : Gl X "enumerate") (hm : X.mg "enumerate" = none) (ha : PA X [e] ta) (hs : starEach [e] X.env = [(false, eval e X.env)] := by rfl) : PI X (.Tuple elts kk tpos) (.Call (.Name "enumerate" p) [e] [] pos) (iEnT ta) := by
  refine ⟨fun pins s σ H R I h => ?_⟩
  refine Call_ (ld_blt I hg hm boot_enumerate (PyProof.Rows.callWith_type1 (thn (ha.run pos pins s σ H _ I h) fun us s1 ⟨vs, H1, I1, r1, a, xs, ex, hq, q⟩ => ?_) hs rfl))
  subst ex
  obtain ⟨u, eu, ru⟩ := vals1 r1
  subst eu
  cases (show u = Value.ref a from ru)
  have look : ∀ (Y : Cx) (H' : Hp) (h : Heap), HOk Y.prog Y.w H' h → H' a = some (.tup xs) → ∃ its : List Value, Vals xs its ∧ h.IsTuple a its.toArray := by
    intro Y H' h ok e
    obtain ⟨_, its, rv, pt⟩ := (show ObjOk Y.prog Y.w H' h a (.tup xs) from ok a _ e)
    exact ⟨its, rv, pt⟩
  obtain ⟨its, rv, pt⟩ := look X H1 s1.heap I1.hok hq
  have alt : a < s1.heap.objs.size := by obtain ⟨o, q, _⟩ := pt; exact Heap.lt_size q
  refine call_enum1 (begins_tuple a its.toArray) pt fun h' he hit hsz hk => wpAny_pyIter_enum he ?_
  exact ⟨s1.heap.objs.size + 1, [s1.heap.objs.size + 1, s1.heap.objs.size], _, _, H1, rfl, I1.kept (t' := s1.toks) hk,
    turn_en (e := s1.heap.objs.size + 1) (it := s1.heap.objs.size) (n := xs.length) (Lc := fun i h => h.IsTupleIter s1.heap.objs.size a i) (SH := fun h => ∃ its : List Value, Vals xs its ∧ h.IsTuple a its.toArray) (fs := [s1.heap.objs.size, a]) (PV := fun i v => ∃ y, xs[i]? = some y ∧ RelV y v)
      (fun A hA => draws_tup hA _ _ (Nat.ne_of_lt alt) _) (fun i h ⟨o, q1, q2, q3⟩ => ⟨o, q1, fun v z => by rw [q3] at z; cases z⟩) (fun i h h'' q k => q.at k)
      (fun Y pins' σ' H' s' _ _ I' hS => look Y H' s'.heap I'.hok hS) (fun i x ⟨y, e1, e2⟩ => ⟨y, e2, e1⟩) (Nat.succ_ne_self _) (addr_fs alt rfl), ⟨⟨.none, he⟩, ⟨_, hit, rfl, rfl⟩, Nat.zero_le _⟩, two_fp I1, q⟩
/-- over a dict with keys ints and texts, locked -/
def iEnD (ta : TA) : TI := fun σ H R => ta σ H fun vs H1 => ∃ d o kvs, vs = [.ref d] ∧ H1 d = some (.frz o (.dK kvs)) ∧ R (Jen kvs.length (fun H => H d = some (.frz o (.dK kvs))) (fun i y => ∃ k v, kvs[i]? = some (k, v) ∧ y = kV k)) H1
theorem pi_enD (hg : Gl X "enumerate") (hm : X.mg "enumerate" = none) (ha : PA X [e] ta) (hs : starEach [e] X.env = [(false, eval e X.env)] := by rfl) : PI X (.Tuple elts kk tpos) (.Call (.Name "enumerate" p) [e] [] pos) (iEnD ta) := by
  refine ⟨fun pins s σ H R I h => ?_⟩
  refine Call_ (ld_blt I hg hm boot_enumerate (PyProof.Rows.callWith_type1 (thn (ha.run pos pins s σ H _ I h) fun us s1 ⟨vs, H1, I1, r1, d, o, kvs, ex, hd, q⟩ => ?_) hs rfl))
  subst ex
  obtain ⟨u, eu, ru⟩ := vals1 r1
  subst eu
  cases (show u = Value.ref d from ru)
  obtain ⟨lo, hgd, hx, es, ep, vs, hdt, hsz, kv, o', es', hgo, hx', hdt', hes, hrest⟩ := I1.frzK hd
  rw [hgd] at hgo
  cases hgo
  rw [hdt] at hdt'
  cases hdt'
  have raw : s1.heap.DictRaw d es ep := ⟨o, hgd, hx, hdt⟩
  have alt : d < s1.heap.objs.size := Heap.lt_size hgd
  refine call_enum1 (begins_dict d lo es ep) raw fun h' he hit hsz' hk => wpAny_pyIter_enum he ?_
  refine ⟨s1.heap.objs.size + 1, [s1.heap.objs.size + 1, s1.heap.objs.size], _, _, H1, rfl, I1.kept (t' := s1.toks) hk,
    turn_en (e := s1.heap.objs.size + 1) (it := s1.heap.objs.size) (n := kvs.length) (Lc := fun i h => h.IsKeyIter s1.heap.objs.size d i es.size ep) (SH := fun h => h.DictRaw d es ep) (fs := [s1.heap.objs.size, d]) (PV := fun i v => ∃ h : i < es.size, v = es[i].key)
      (fun A hA => by rw [← hsz]; exact draws_keys hA _ _ (Nat.ne_of_lt alt) es ep) (fun i h ⟨o, q1, q2, q3⟩ => ⟨o, q1, fun v z => by rw [q3] at z; cases z⟩) (fun i h h'' ⟨o, q1, q2⟩ k => ⟨o, k o q1, q2⟩)
      (fun Y pins' σ' H' s' _ _ I' hS => ⟨o, (show ObjOk Y.prog Y.w H' s'.heap d (.frz o (.dK kvs)) from I'.hok d _ hS).1, hx, hdt⟩) ?_ (Nat.succ_ne_self _) (addr_fs alt rfl), ⟨⟨.none, he⟩, ⟨_, hit, rfl, rfl⟩, Nat.zero_le _⟩, two_fp I1, q⟩
  rintro i x ⟨hi, rfl⟩
  have hiv : i < vs.length := by
    rw [← KV.length kv, ← hsz]
    exact hi
  obtain ⟨kp, hkp, e1, e2⟩ := pget' kv (List.getElem?_eq_getElem hiv)
  have is := hrest.1.get? (e := es[i]) (k := vs[i].1) (v := vs[i].2) (by simp [hi]) (List.getElem?_eq_getElem hiv)
  refine ⟨kV kp.1, ?_, kp.1, kp.2, hkp, rfl⟩
  rw [e1]
  rcases keyIs_shape (show keyIs vs[i].1 es[i].key = true from is.1) with ⟨j, t, a1, a2⟩ | ⟨z, t, a1, a2⟩
  · rw [a1, a2]; exact ⟨t, rfl⟩
  · rw [a1, a2]; exact ⟨t, rfl⟩
end
end PL
namespace PL
open PySem PySem.Spec PyProof.Rows L2
section
variable {X : Cx}
theorem mk_dict (s : Shared) (Q : Value → Shared → Prop) (E : Value → Shared → Prop) (q : Q (.ref s.heap.objs.size) { s with heap := s.heap.push { cls := .type "dict", data := .dict #[] } }) : wpAny (model X.prog X.w) X.A newDict Q E s :=
  wpAny_newObj_type q
def dBody (X : Cx) (kx vx : Expr) (D : Addr) (env : Env) (fin : Shared → Prop) (E : Value → Shared → Prop) (s : Shared) : Prop :=
  wpAny (model X.prog X.w) X.A (eval kx env) (fun kv s4 => wpAny (model X.prog X.w) X.A (eval vx env) (fun vv s5 => wpAny (model X.prog X.w) X.A (dictSet D kv vv) (fun _ s6 => fin s6) E s5) E s4) E s
/-- {k: v for ..}, the keys tuples -/
def kkT (tk tv : TE) : Addr → L2.St → Hp → (Hp → Prop) → Prop := fun D σ H N => tk σ H fun y H4 => tv σ H4 fun z H5 => ∃ kvs k b, y = .ref b ∧ H5 b = some (.tup (k.map kV)) ∧ H5 D = some (.dT kvs) ∧ kvs.length < sizeLine ∧ N (upd H5 D (.dT (putK kvs k z)))
def kkK (tk tv : TE) : Addr → L2.St → Hp → (Hp → Prop) → Prop := fun D σ H N => tk σ H fun y H4 => tv σ H4 fun z H5 => ∃ kvs k, y = kV k ∧ H5 D = some (.dK kvs) ∧ kvs.length < sizeLine ∧ N (upd H5 D (.dK (putK kvs k z)))
theorem dictSetT {pins : List (Addr × Obj)} {σ : L2.St} {H : Hp} {s : Shared} {E : Value → Shared → Prop} {D b : Addr} {kvs : List (List L2.Key × V)} {k : List L2.Key} {v : V} {r : Value} {Q : Unit → Shared → Prop} (I : Inv X pins σ H s) (hu : X.A.units < cLine) (hD : H D = some (.dT kvs)) (hz : kvs.length < sizeLine)
    (hb : H b = some (.tup (k.map kV))) (rv : RelV v r) (h : ∀ s', Inv X pins σ (upd H D (.dT (putK kvs k v))) s' → Q () s') : wpAny (model X.prog X.w) X.A (dictSet D (.ref b) r) Q E s := by
  obtain ⟨z, hs, xs, rel, dd⟩ := dt_of I.hok hD
  have zx : xs.length ≤ sizeLine := by rw [← plen rel]; exact z
  have zl : (putK kvs k v).length ≤ sizeLine := Nat.le_trans (length_putK kvs k v) hz
  refine wpAny_dictSet_heap (knd := tupleKind (mixKind X.prog X.w)) (hsz := zx) hu (key_of I.hok hb) dd fun h' d' sb => h _ ?_
  obtain ⟨q, es, ep, g1, g2, g3, g4, _, g5⟩ := d'
  refine d_write I (by rw [hD]; exact True.intro) sb ⟨q, g1⟩ ⟨zl, hs, _, (rel.put k hb rv).keeps fun c ys ec => ?_, q, es, ep, g1, g2, g3, g4, g5⟩
  rw [upd_ne (ne_of ec hD (fun z => nomatch z))]
  exact ec
variable {kx vx tg iter : Expr} {ifs : List Expr} {scope : Scope} {own : List (Str × Nat)} {pos : Pos} {wi : TI} {g : TG} {tt : TT} {tk tv : TE}
theorem pe_dcT (hu : X.A.units < cLine) (hc : X.calm = true) (hN : X.N.Nodup) (hi : PI X tg iter wi) (ok : BlkOk X.N X.env.scope scope own)
    (hg : ∀ (s : Shared) (H : Hp) (C : Addr) (cl : List (Str × Addr)) (fp : List Addr), PG (X.blk s H scope (compEnvC scope cl C X.env) fp) tg g)
    (ht : ∀ (s : Shared) (H : Hp) (C : Addr) (cl : List (Str × Addr)) (fp : List Addr), PTs (X.blk s H scope (compEnvC scope cl C X.env) fp) ifs tt)
    (hk : ∀ (s : Shared) (H : Hp) (C : Addr) (cl : List (Str × Addr)) (fp : List Addr), PE (X.blk s H scope (compEnvC scope cl C X.env) fp) kx tk)
    (he : ∀ (s : Shared) (H : Hp) (C : Addr) (cl : List (Str × Addr)) (fp : List Addr), PE (X.blk s H scope (compEnvC scope cl C X.env) fp) vx tv) (hs : ∀ x, foldedSetIterable iter X.env x = pure x := by intro _; rfl) :
    PE X (.DictComp kx vx [⟨tg, iter, ifs, 0⟩] scope pos) (tGc wi g tt (fun _ => .dT []) (kkT tk tv) (own.map (·.2))) := by
  refine gc_core (X := X) (mk := newDict) (body := dBody X kx vx) (pos' := _) rfl (by rw [arm_eval_DictComp]; rfl) mk_dict (fun h => Heap.get?_push_size _ rfl) (fun H h big => dt_empty h big) (fun I turn n h => compLoop_anyD I turn n h) (fun h0 h => codeAny_compStart_dict h0 h) ?_ hc hN hi ok hg ht hs
  intro s0 H0 C cl fp D pins σ2 H3 s3 N fin E I hkk hfin
  refine thnF ((hk s0 H0 C cl fp).run _ s3 σ2 H3 _ I hkk) ?_
  rintro u s4 ⟨y, H4, I4, r4, q4⟩
  refine thnF ((he s0 H0 C cl fp).run _ s4 σ2 H4 _ I4 q4) ?_
  rintro u2 s5 ⟨z, H5, I5, r5, kvs, k, b, ey, hb, hD, hz, nx⟩
  subst ey
  cases (show u = Value.ref b from r4)
  exact dictSetT (X := X.blk s0 H0 scope (compEnvC scope cl C X.env) fp) I5 hu hD hz hb r5 fun s6 I6 => hfin s6 _ I6 nx
theorem pe_dcK (hc : X.calm = true) (hN : X.N.Nodup) (hi : PI X tg iter wi) (ok : BlkOk X.N X.env.scope scope own)
    (hg : ∀ (s : Shared) (H : Hp) (C : Addr) (cl : List (Str × Addr)) (fp : List Addr), PG (X.blk s H scope (compEnvC scope cl C X.env) fp) tg g)
    (ht : ∀ (s : Shared) (H : Hp) (C : Addr) (cl : List (Str × Addr)) (fp : List Addr), PTs (X.blk s H scope (compEnvC scope cl C X.env) fp) ifs tt)
    (hk : ∀ (s : Shared) (H : Hp) (C : Addr) (cl : List (Str × Addr)) (fp : List Addr), PE (X.blk s H scope (compEnvC scope cl C X.env) fp) kx tk)
    (he : ∀ (s : Shared) (H : Hp) (C : Addr) (cl : List (Str × Addr)) (fp : List Addr), PE (X.blk s H scope (compEnvC scope cl C X.env) fp) vx tv) (hs : ∀ x, foldedSetIterable iter X.env x = pure x := by intro _; rfl) :
    PE X (.DictComp kx vx [⟨tg, iter, ifs, 0⟩] scope pos) (tGc wi g tt (fun _ => .dK []) (kkK tk tv) (own.map (·.2))) := by
  refine gc_core (X := X) (mk := newDict) (body := dBody X kx vx) (pos' := _) rfl (by rw [arm_eval_DictComp]; rfl) mk_dict (fun h => Heap.get?_push_size _ rfl) (fun H h big => dk_empty h big) (fun I turn n h => compLoop_anyD I turn n h) (fun h0 h => codeAny_compStart_dict h0 h) ?_ hc hN hi ok hg ht hs
  intro s0 H0 C cl fp D pins σ2 H3 s3 N fin E I hkk hfin
  refine thnF ((hk s0 H0 C cl fp).run _ s3 σ2 H3 _ I hkk) ?_
  rintro u s4 ⟨y, H4, I4, r4, q4⟩
  refine thnF ((he s0 H0 C cl fp).run _ s4 σ2 H4 _ I4 q4) ?_
  rintro u2 s5 ⟨z, H5, I5, r5, kvs, k, ey, hD, hz, nx⟩
  subst ey
  exact d_dictSet (X := X.blk s0 H0 scope (compEnvC scope cl C X.env) fp) I5 hD hz r4 r5 fun s6 I6 => hfin s6 _ I6 nx
/-- {x for ..}, x a text -/
def kkS (P : Program) (w : World) (te : TE) : Addr → L2.St → Hp → (Hp → Prop) → Prop := fun D σ H N => te σ H fun y H4 => ∃ (z : Str) (S : Str → Prop) (n : Nat), y = .str z ∧ H4 D = some (SXo P w D (fun k => ∃ x, k = .inr x ∧ S x) n) ∧ n < 4000 ∧
  N (upd H4 D (SXo P w D (fun k => ∃ x, k = .inr x ∧ (S x ∨ x = z)) (n + 1)))
def sBody (X : Cx) (kx : Expr) (D : Addr) (env : Env) (fin : Shared → Prop) (E : Value → Shared → Prop) (s : Shared) : Prop :=
  wpAny (model X.prog X.w) X.A (eval kx env) (fun x s4 => wpAny (model X.prog X.w) X.A (call (.builtin "set.add") [.ref D, x]) (fun _ s5 => fin s5) E s4) E s
theorem pe_scS (hc : X.calm = true) (hN : X.N.Nodup) (hi : PI X tg iter wi) (ok : BlkOk X.N X.env.scope scope own)
    (hg : ∀ (s : Shared) (H : Hp) (C : Addr) (cl : List (Str × Addr)) (fp : List Addr), PG (X.blk s H scope (compEnvC scope cl C X.env) fp) tg g)
    (ht : ∀ (s : Shared) (H : Hp) (C : Addr) (cl : List (Str × Addr)) (fp : List Addr), PTs (X.blk s H scope (compEnvC scope cl C X.env) fp) ifs tt)
    (hk : ∀ (s : Shared) (H : Hp) (C : Addr) (cl : List (Str × Addr)) (fp : List Addr), PE (X.blk s H scope (compEnvC scope cl C X.env) fp) kx tk) (hs : ∀ x, foldedSetIterable iter X.env x = pure x := by intro _; rfl) :
    PE X (.SetComp kx [⟨tg, iter, ifs, 0⟩] scope pos) (tGc wi g tt (fun D => SXo X.prog X.w D (fun k => ∃ x, k = .inr x ∧ False) 0) (kkS X.prog X.w tk) (own.map (·.2))) := by
  refine gc_core (X := X) (mk := newSet (.type "set")) (body := sBody X kx) (pos' := _) rfl (PpSet.eval_SetComp kx _ scope pos) (fun s Q E q => PpSet.newSet_ok q) (fun h => Heap.get?_push_size _ rfl) (fun H h big => sxo_new ?_) (fun I turn n h => PpSet.compLoopS_any I turn n h) (fun h0 h => PpSet.codeAny_compStart_set h0 h) ?_ hc hN hi ok hg ht hs
  · have e : (fun k : L2.Key => ∃ x, k = Sum.inr x ∧ False) = fun _ => False := by
      funext k
      simp
    rw [e]
    exact setX_fresh h
  · intro s0 H0 C cl fp D pins σ2 H3 s3 N fin E I hkk hfin
    refine thnF ((hk s0 H0 C cl fp).run _ s3 σ2 H3 _ I hkk) ?_
    rintro u s4 ⟨y, H4, I4, r4, z, S, n, ey, hD, hn, nx⟩
    subst ey
    have R := (I4.hok D _ hD).1
    have sb : n + 1 < scanBound := by
      have e4 : scanBound = 4096 := rfl
      omega
    refine setX_add (kV_is (k := .inr z) r4) (key_scan (k := .inr z) r4) R sb fun h' t' sb' R' => hfin _ _ ?_ nx
    have eS : (fun j : L2.Key => (∃ x, j = Sum.inr x ∧ S x) ∨ j = Sum.inr z) = fun k => ∃ x, k = Sum.inr x ∧ (S x ∨ x = z) := by
      funext j
      apply propext
      constructor
      · rintro (⟨x, e, h⟩ | e)
        · exact ⟨x, e, .inl h⟩
        · exact ⟨z, e, .inr rfl⟩
      · rintro ⟨x, e, h | h⟩
        · exact .inl ⟨x, e, h⟩
        · subst h; exact .inr e
    rw [eS] at R'
    have he : ∃ q, h'.get? D = some q := let ⟨q, _, _, _, hq, _⟩ := R'; ⟨q, hq⟩
    exact d_write I4 (by rw [hD]; exact True.intro) sb' he (sxo_new R')
end
end PL
namespace PL
open PySem PySem.Spec PyProof.Rows L2
section
variable {X : Cx}
/-- d.setdefault(k, x), the keys tuples -/
def tSetdT (td ty tx : TE) : TE := fun σ H Q => td σ H fun x H1 => ∃ a, x = .ref a ∧ IsD H1 a ∧ ty σ H1 fun y H2 => tx σ H2 fun z H3 => ∃ kvs k b, H3 a = some (.dT kvs) ∧ y = .ref b ∧ H3 b = some (.tup (k.map kV)) ∧ kvs.length < sizeLine ∧
  (∀ v, valV kvs k = some v → Q v H3) ∧ (valV kvs k = none → Q z (upd H3 a (.dT (putK kvs k z))))
theorem pe_setdT {o e f : Expr} {td ty tx : TE} {apos cpos : Pos} (hu : X.A.units + 64 < cLine) (ho : PE X o td) (he : PE X e ty) (hf : PE X f tx) (m : M2 X o "setdefault" apos e f cpos) : PE X (.Call (.Attribute o "setdefault" apos) [e, f] [] cpos) (tSetdT td ty tx) := by
  refine ⟨fun pins s σ H Q I h => ?_⟩
  refine wpAny_Call_method m.base m.few m.line PySem.F.plainAttrs_dict PySem.F.slot_dict_setdefault PySem.F.type_dict_setdefault (thn (ho.run pins s σ H _ I h) ?_)
  rintro u s1 ⟨x, H1, I1, rx, a, ex, isd, q1⟩
  subst ex
  cases (show u = Value.ref a from rx)
  obtain ⟨t1, t2, _⟩ := isD_at I1 isd
  refine ⟨t1, t2, ?_⟩
  rw [m.trees]
  refine Calls.callWith_builtin rfl (Calls.evalArgs_plain (Calls.spliced_cons (thn (he.run pins s1 σ H1 _ I1 q1) ?_)))
  rintro iv s2 ⟨y, H2, I2, ry, q2⟩
  refine Calls.spliced_cons (thn (hf.run pins s2 σ H2 _ I2 q2) ?_)
  rintro fv s3 ⟨z, H3, I3, rz, kvs, k, b, ha, ey, hb, hl, q3, q4⟩
  refine Calls.spliced_nil ?_
  subst ey
  cases (show iv = Value.ref b from ry)
  obtain ⟨zl, lo, xs, rel, dd⟩ := dt_of I3.hok ha
  have zx : xs.length ≤ sizeLine := by rw [← plen rel]; exact zl
  have rv := rel.val k
  refine call_setdefault_heap (knd := tupleKind (mixKind X.prog X.w)) (hsz := zx) (by show X.A.units + 1 < cLine; omega) (key_of I3.hok hb) lo dd (fun pv hp => ?_) fun hn h' d' sb => ?_
  · rw [hp, Option.map_some] at rv
    cases e : valV kvs k with
    | none => rw [e] at rv; exact (show False from rv).elim
    | some v0 =>
      rw [e] at rv
      exact ⟨v0, H3, I3.tok _, rv, q3 v0 e⟩
  · rw [hn, Option.map_none] at rv
    cases e : valV kvs k with
    | some v0 => rw [e] at rv; exact (show False from rv).elim
    | none =>
      obtain ⟨qo, es, ep, g1, g2, g3, g4, _, g5⟩ := d'
      refine ⟨z, upd H3 a (.dT (putK kvs k z)), d_write (t' := _) I3 (by rw [ha]; exact True.intro) sb ⟨qo, g1⟩ ⟨Nat.le_trans (length_putK kvs k z) hl, lo, _, (rel.put k hb rz).keeps fun c ys ec => ?_, qo, es, ep, g1, g2, g3, g4, g5⟩, rz, q4 e⟩
      rw [upd_ne (ne_of ec ha (fun z => nomatch z))]
      exact ec
/-- len(set(a list of ints)) -/
def ndist (ns : List Int) : Nat := (ns.foldl step_dedup []).length
theorem range_getD : ∀ ns : List Int, (List.range ns.length).map (fun i => ns.getD i 0) = ns := by
  intro ns
  apply List.ext_getElem?
  intro i
  by_cases h : i < ns.length
  · simp [h]
  · simp [h]
def tLenSetN (K : PySem.W.Frag) (ta : TE) : TE := fun σ H Q => ta σ H fun x H1 => ∃ (l : Addr) (ns : List Int), x = .ref l ∧ SqL K H1 l (ns.map V.int) ∧ ns.length ≤ 4000 ∧ Q (.int (ndist ns : Nat)) H1
theorem pe_lenSetN {a : Expr} {ta : TE} {p p2 q pos : Pos} (hg : Gl X "len") (hm : X.mg "len" = none) (hg2 : Gl X "set") (hm2 : X.mg "set" = none) (ha : PE X a ta) (hc : X.calm = true := by rfl)
    (na : starEach [a] X.env = (false, eval a X.env) :: starEach [] X.env := by rfl) : PE X (.Call (.Name "len" p) [.Call (.Name "set" p2) [a] [] q] [] pos) (tLenSetN X.K ta) := by
  refine ⟨fun pins s σ H Q I h => ?_⟩
  refine Call_ (ld_blt I hg hm boot_len (PyProof.Rows.callWith_builtin1 (PyProof.Rows.args_cons (Call_ (ld_blt I hg2 hm2 boot_set ?_)) rfl) rfl rfl))
  refine PyProof.Rows.callWith_type1 (PyProof.Rows.args_cons (thn (ha.run pins s σ H _ I h) ?_) na) na rfl
  rintro v s1 ⟨x, H1, I1, r1, l, ns, ex, hq, hl, q1⟩
  refine PyProof.Rows.args_nil ?_
  subst ex
  cases (show v = Value.ref l from r1)
  obtain ⟨its, r, pl, hz⟩ := I1.list hq
  have hlen : its.toArray.size = ns.length := by
    have := r.length
    simpa using this.symm
  have e4 : scanBound = 4096 := rfl
  have em : firstMet (fun i => ns.getD i 0) its.toArray.size = ns.foldl step_dedup [] := by
    unfold firstMet
    rw [hlen, range_getD]
  refine call_set_list (I1.ok.hd hc) pl.isList (by simpa using RZ.intsAre_vals r) (by omega) fun h' tk hS hk => PyProof.Rows.args_nil ?_
  rw [em] at hS
  obtain ⟨o, es, ep, t, ho, hex, hd, _, _, lt, hf, hn⟩ := hS
  have I2 : Inv X pins σ H1 { s1 with heap := h', toks := tk } := I1.kept fun b o e => hk b o (Heap.lt_size e) e
  exact call_len_set ho hex hd hf (by omega) ⟨.int (ndist ns : Nat), H1, I2.tok _, ⟨_, by rw [hn]; rfl⟩, q1⟩
/-- X(), X an own exception class without own __init__ -/
theorem pmk_own0 {C : Addr} {bmB : List Value} {B newId initId : String} {x : Str} {p pos : Pos} (F : ExcBaseFacts B newId initId bmB) (q : PySem.W.excIn X.K C bmB newId = true) (gC : X.mg x = some (.ref C))
    (kC : PySem.W.keepIn X.K (.ref C) = true) (r : Raises X (.ref C)) (hg : Gl X x) (hdb : (x == ("__debug__" : Str)) = false := by decide) : PMk X (.Call (.Name x p) [] [] pos) (fun _ H Q => Q (.ref C) none H) := by
  intro pins s σ H Q I h
  refine wpAny_Call_Name_kw (ld_glob I hg gC (PySem.W.callWith_K0 I.kIn kC ?_) hdb)
  obtain ⟨bm, N, nm, qn, bs, hdct, sn, sub, ab, col, dd, k0, k1, k2, k3, k5, mN, hC, hN, hni, T⟩ := exc_obj I.kIn q
  exact wpAny_call_exc_subT F T hC hN hni (fun h' e hm => mk_of I hm r h (I.hok.gone hm.new)) (Nat.zero_le _)
end
end PL
namespace PL
open PySem PySem.Spec PyProof.Rows L2
abbrev sNext : Stmt := topS 10
theorem scNext : FnScope ["table", "state", "action", "other", "goal"] ["table", "state", "action"] (defScope sNext) := ⟨rfl, rfl, rfl, by decide +kernel, rfl, by decide +kernel, by decide +kernel⟩
def ov : Option Nat → V
  | none => .non
  | some n => .int (n : Int)
def spNext : Sp := fun vs H Q _ => ∃ t x T s a, vs = [t, .int ((s : Nat) : Int), x] ∧ RTbl H t T ∧ s < T.rows.length ∧ RAct H x a ∧ Q (ov (T.next s a)) H
section
variable {P : Program} {w : World} {K : PySem.W.Frag} {mg : Str → Option Value} {base : Heap}
theorem look_split {r : List (Act × Nat)} {a : Act} {i : Nat} (h : look (r.take i) a = none) : ∀ {p}, r[i]? = some p → look (r.take (i + 1)) a = if p.1 = a then some p.2 else none := by
  induction r generalizing i with
  | nil => intro p h; simp at h
  | cons q r ih =>
    intro p hp
    cases i with
    | zero =>
      simp at hp
      subst hp
      simp [look]
    | succ i =>
      simp only [List.take_succ_cons, look] at h ⊢
      split at h
      · cases h
      · rename_i hq
        rw [if_neg hq]
        exact ih h (by simpa using hp)
theorem look_found {r : List (Act × Nat)} {a : Act} {i : Nat} (h : look (r.take i) a = none) {p} (hp : r[i]? = some p) (e : p.1 = a) : look r a = some p.2 := by
  induction r generalizing i with
  | nil => simp at hp
  | cons q r ih =>
    cases i with
    | zero =>
      simp at hp
      subst hp
      simp [look, e]
    | succ i =>
      simp only [List.take_succ_cons, look] at h ⊢
      split at h
      · cases h
      · rename_i hq
        rw [if_neg hq]
        exact ih h (by simpa using hp)
theorem ok_next {f : Addr} {fd : FuncData} {k : Nat} (F : Fun K "next_state" "next_state" sNext f fd) : FnOk P w K mg base CX0 (k + 1) f fd ["table", "state", "action"] spNext := by
  refine F.ok scNext (fun vs H Q E h => ?_) (fun cdv A outer s H vs Q E hr h => ?_)
  · obtain ⟨t, x, T, s, a, rfl, _⟩ := h
    rfl
  · obtain ⟨t, x, T, s, a, rfl, hT, hs, hx, q⟩ := h
    refine ⟨_, pss_cons (ps_for PassesOwn.never rfl (pi_tup (pe_ix ix_tup (pe_ix ix_tup (pv 0) pe_int (fun _ _ => rfl)) (pv 1) (fun _ _ => rfl)))
        (pg_tup rfl (pgs_cons (pg_name (i := 3) scNext.nd rfl (.inl rfl)) (pgs_cons (pg_name (i := 4) scNext.nd rfl (.inl rfl)) pgs_nil)))
        (pss_one (ps_if (pt_cmpR (op_eqA hr.units) (pv 3) (pv 2) (nomark _)) (pss_one (ps_ret (pv 4))) pss_nil)))
      (pss_one (ps_ret pe_non)), ?_⟩
    obtain ⟨p, vr, ve, rfl, hp, ⟨pr, vrs, rfl, hpr, prs⟩, _⟩ := hT
    obtain ⟨row, hrow⟩ : ∃ row, T.rows[s]? = some row := ⟨_, List.getElem?_eq_getElem hs⟩
    obtain ⟨rv, hrv, p1, vs1, rfl, hp1, prow⟩ := pget' prs hrow
    have enx : T.next s a = look row a := by simp [Tbl.next, hrow]
    refine ⟨.ref p, rfl, p, _, _, .ref pr, rfl, rfl, SqT.of hp, atI_nat (j := 1) rfl, _, rfl, pr, _, _, _, rfl, rfl, SqT.of hpr, atI_nat hrv, p1, rfl, ⟨_, SqT.of hp1⟩, ?_⟩
    refine for_it (walk_tup (xs := vs1)) (fun i σ H' => H' = H ∧ look (row.take i) a = none ∧ ∃ y3 y4, σ = [some (.ref p), some (.int (s : Nat)), some x, y3, y4]) ⟨rfl, rfl, none, none, rfl⟩ (fun i σ H' _ ⟨e, _⟩ => by subst e; exact SqT.of hp1) ?_ ?_
    · rintro i y σ H' H'' hi ⟨rfl, hl, y3, y4, rfl⟩ ⟨rfl, hy⟩
      obtain ⟨pr1, hpr1, p2, va, vb, rfl, hp2, hva, hvb⟩ := pget prow hy
      refine ⟨p2, _, rfl, SqT.of hp2, rfl, va, _, rfl, vb, _, rfl, rfl, ?_⟩
      refine ⟨va, rfl, x, rfl, pr1.1, a, hva, hx, _, rfl, ite2 (fun e => ?_) (fun e => ?_)⟩
      · have e := of_decide_eq_true e
        refine ⟨vb, rfl, ?_⟩
        rw [enx, look_found hl hpr1 e] at q
        cases (show vb = V.int _ from hvb)
        exact q
      · refine ⟨rfl, ?_, _, _, rfl⟩
        rw [look_split hl hpr1, if_neg]
        exact fun z => e (decide_eq_true z)
    · rintro σ H' ⟨rfl, hl, y3, y4, rfl⟩
      have : row.take vs1.length = row := by rw [plen prow]; exact List.take_length
      rw [this] at hl
      rw [enx, hl] at q
      exact q
end
end PL
namespace PL
open PySem PySem.Spec PyProof.Rows L2
def conc (a : Act) (p : Str) : Bool := decide (a.1 = p) || decide (a.2.1 = p)
def vw (r : List Act) (p : Str) : List Act := r.filter fun a => conc a p
def RRun : Rl (List Act) := RLst RAct
theorem RRun.mono : Mono RRun := RLst.mono RAct.mono
abbrev sConc : Stmt := topS 16
abbrev sView : Stmt := topS 17
abbrev sWalk : Stmt := topS 11
theorem scConc : FnScope ["action", "party"] ["action", "party"] (defScope sConc) := ⟨rfl, rfl, rfl, by decide +kernel, rfl, by decide +kernel, by decide +kernel⟩
theorem scView : FnScope ["actions", "party", "action"] ["actions", "party"] (defScope sView) := ⟨rfl, rfl, rfl, by decide +kernel, rfl, by decide +kernel, by decide +kernel⟩
theorem scWalk : FnScope ["table", "actions", "state", "action"] ["table", "actions"] (defScope sWalk) := ⟨rfl, rfl, rfl, by decide +kernel, rfl, by decide +kernel, by decide +kernel⟩
def spConc : Sp := fun vs H Q _ => ∃ x a p, vs = [x, .str p] ∧ RAct H x a ∧ Q (.bl (conc a p)) H
def spView : Sp := fun vs H Q _ => ∃ x r p, vs = [x, .str p] ∧ RRun H x r ∧ r.length ≤ 1000000 ∧ ∀ H' q, Same H H' → H q = none → RRun H' (.ref q) (vw r p) → Q (.ref q) H'
section
variable {P : Program} {w : World} {K : PySem.W.Frag} {mg : Str → Option Value} {base : Heap}
theorem ok_conc {f : Addr} {fd : FuncData} {k : Nat} (F : Fun K "concerns" "concerns" sConc f fd) : FnOk P w K mg base CX0 (k + 1) f fd ["action", "party"] spConc := by
  refine F.ok scConc (fun vs H Q E h => ?_) (fun cdv A outer s H vs Q E hr h => ?_)
  · obtain ⟨x, a, p, rfl, _⟩ := h
    rfl
  · obtain ⟨x, a, p, rfl, ⟨pa, rfl, ha⟩, q⟩ := h
    refine ⟨_, pss_one (ps_ret (pe_or (pe_cmpR op_eq (pe_ix ix_tup (pv 0) pe_int (fun _ _ => rfl)) (pv 1) (nomark _)) (pe_one (pe_cmpR op_eq (pe_ix ix_tup (pv 0) pe_int (fun _ _ => rfl)) (pv 1) (nomark _))))), ?_⟩
    refine ⟨.ref pa, rfl, pa, _, _, .str a.1, rfl, rfl, SqT.of ha, atI_nat (j := 0) rfl, .str p, rfl, rfl, _, rfl, ite2 (fun e => ?_) (fun e => ?_)⟩
    · have e1 : a.1 = p := V.str.inj (of_decide_eq_true e)
      have e2 : conc a p = true := by simp [conc, e1]
      rw [e2] at q
      exact q
    · refine ⟨.ref pa, rfl, pa, _, _, .str a.2.1, rfl, rfl, SqT.of ha, atI_nat (j := 1) rfl, .str p, rfl, rfl, ?_⟩
      have e1 : a.1 ≠ p := fun z => e (decide_eq_true (congrArg V.str z))
      have e2 : conc a p = decide (V.str a.2.1 = V.str p) := by simp [conc, e1]
      rw [e2] at q
      exact q
theorem RRun.lst {H : Hp} {v : V} {r : List Act} (h : RRun H v r) : ∃ p vs, v = .ref p ∧ H p = some (.lst vs) ∧ Paired (RAct H) vs r := h
theorem vw_snoc (r : List Act) (a : Act) (p : Str) : vw (r ++ [a]) p = if conc a p = true then vw r p ++ [a] else vw r p := by
  unfold vw
  rw [List.filter_append]
  by_cases h : conc a p = true
  · rw [if_pos h, List.filter_cons_of_pos (by simpa using h)]
    rfl
  · rw [if_neg h, List.filter_cons_of_neg (by simpa using h)]
    simp
theorem take_snoc {α : Type} {l : List α} {i : Nat} {x : α} (h : l[i]? = some x) : l.take (i + 1) = l.take i ++ [x] := by
  rw [List.take_add_one, h]
  rfl
theorem ok_view {f fC : Addr} {fd fdC : FuncData} {k : Nat} (F : Fun K "view" "view" sView f fd) (FC : Fun K "concerns" "concerns" sConc fC fdC) (bC : Binds K fdC ["action", "party"] []) (gC : mg "concerns" = some (.ref fC)) : FnOk P w K mg base CX0 (k + 2) f fd ["actions", "party"] spView := by
  have GC : FnOk P w K mg base CX0 (k + 1) fC fdC ["action", "party"] spConc := ok_conc FC
  refine F.ok scView (fun vs H Q E h => ?_) (fun cdv A outer s H vs Q E hr h => ?_)
  · obtain ⟨x, r, p, rfl, _⟩ := h
    rfl
  · obtain ⟨x, r, p, rfl, ⟨pl, vs, rfl, hl, hp⟩, hn, q⟩ := h
    refine ⟨_, pss_one (ps_ret (pe_lc (own := [("action", 2)]) (g := gName 2) (by rfl) scView.nd (pi_list (pv 0)) (blkOk_by (N := ["actions", "party", "action"]) (sc := defScope sView) (by decide +kernel)) (fun _ _ _ _ _ => pg_name (i := 2) scView.nd rfl (Or.inl rfl))
      (fun _ _ _ _ _ => pts_one (pt_val (pe_call GC hr (by rfl) gC FC.kp bC .nil pass0 (pa_cons (pv 2) (pa_cons (pv 1) pa_nil))))) (fun _ _ _ _ _ => pv 2))), ?_⟩
    refine ⟨.ref pl, rfl, pl, rfl, ⟨_, SqL.of hl⟩, fun D nD => lc_it (walk_list (xs := vs)) (fun i H' => Same H H' ∧ ∃ ws, H' D = some (.lst ws) ∧ Paired (RAct H) ws (vw (r.take i) p)) ⟨same_upd nD, [], upd_same, .nil⟩ (fun i H' _ ⟨s, _⟩ => SqL.of (s _ _ hl)) ?_ ?_⟩
    · rintro i y H' H'' hi ⟨sm, ws, hD, hw⟩ ⟨rfl, hy⟩
      obtain ⟨a, ha, ra⟩ := pget hp hy
      refine ⟨rfl, y, rfl, .str p, rfl, y, a, p, rfl, RAct.mono _ _ _ _ sm ra, conc a p, rfl, ?_⟩
      have hr' := vw_snoc (r.take i) a p
      rw [← take_snoc ha] at hr'
      refine ite2 (fun e => ?_) (fun e => ?_)
      · rw [if_pos e] at hr'
        refine ⟨y, rfl, ws, hD, ?_, same_re sm nD, ws ++ [y], upd_same, ?_⟩
        · rw [sizeLine_eq]
          have h1 := plen hw
          have h2 : (vw (r.take i) p).length ≤ (r.take i).length := List.length_filter_le _ _
          have h3 : (r.take i).length ≤ r.length := by simp; omega
          omega
        · rw [hr']
          exact psnoc hw ra
      · rw [if_neg e] at hr'
        exact ⟨sm, ws, hD, by rw [hr']; exact hw⟩
    · rintro H' ⟨sm, ws, hD, hw⟩
      have : r.take vs.length = r := by rw [plen hp]; exact List.take_length
      rw [this] at hw
      exact q H' D sm nD ⟨D, ws, rfl, hD, pmono hw fun _ _ z => RAct.mono _ _ _ _ sm z⟩
def Tbl.walkF (T : Tbl) : Nat → List Act → Option Nat
  | s, [] => some s
  | s, a :: r => match T.next s a with
    | none => none
    | some g => T.walkF g r
def Tbl.walk (T : Tbl) (r : List Act) : Option Nat := T.walkF 0 r
/-- the states that are met lie in the table -/
def Tbl.Inb (T : Tbl) : Prop := ∀ row ∈ T.rows, ∀ p ∈ row, p.2 < T.rows.length
theorem look_mem {r : List (Act × Nat)} {a : Act} {g : Nat} (h : look r a = some g) : (a, g) ∈ r := by
  induction r with
  | nil => cases h
  | cons q r ih =>
    unfold look at h
    split at h
    · rename_i e
      cases h
      rw [← e]
      exact List.mem_cons_self
    · exact List.mem_cons_of_mem _ (ih h)
theorem Tbl.Inb.next {T : Tbl} (h : T.Inb) {s : Nat} {a : Act} {g : Nat} (e : T.next s a = some g) : g < T.rows.length := by
  unfold Tbl.next at e
  by_cases hs : s < T.rows.length
  · rw [List.getD_eq_getElem?_getD, List.getElem?_eq_getElem hs] at e
    exact h _ (List.getElem_mem hs) _ (look_mem e)
  · rw [List.getD_eq_getElem?_getD, List.getElem?_eq_none (by omega)] at e
    cases e
theorem Tbl.walkF_app (T : Tbl) (r r' : List Act) : ∀ s, T.walkF s (r ++ r') = (T.walkF s r).bind fun g => T.walkF g r' := by
  induction r with
  | nil => intro s; rfl
  | cons a r ih =>
    intro s
    simp only [List.cons_append, Tbl.walkF]
    cases T.next s a with
    | none => rfl
    | some g => exact ih g
def spWalk : Sp := fun vs H Q _ => ∃ t x T r, vs = [t, x] ∧ RTbl H t T ∧ T.Inb ∧ 0 < T.rows.length ∧ RRun H x r ∧ Q (ov (T.walk r)) H
theorem ok_walk {f fN : Addr} {fd fdN : FuncData} {k : Nat} (F : Fun K "walk" "walk" sWalk f fd) (FN : Fun K "next_state" "next_state" sNext fN fdN) (bN : Binds K fdN ["table", "state", "action"] []) (gN : mg "next_state" = some (.ref fN)) : FnOk P w K mg base CX0 (k + 2) f fd ["table", "actions"] spWalk := by
  have GN : FnOk P w K mg base CX0 (k + 1) fN fdN ["table", "state", "action"] spNext := ok_next FN
  refine F.ok scWalk (fun vs H Q E h => ?_) (fun cdv A outer s H vs Q E hr h => ?_)
  · obtain ⟨t, x, T, r, rfl, _⟩ := h
    rfl
  · obtain ⟨t, x, T, r, rfl, hT, hin, h0, ⟨pl, vs, rfl, hl, hp⟩, q⟩ := h
    refine ⟨_, pss_cons (ps_set (i := 2) scWalk.nd rfl (.inl rfl) pe_int)
      (pss_cons (ps_for PassesOwn.never rfl (pi_list (pv 1)) (pg_name (i := 3) scWalk.nd rfl (.inl rfl))
        (pss_cons (ps_set (i := 2) scWalk.nd rfl (.inl rfl) (pe_call GN hr (by rfl) gN FN.kp bN .nil pass0 (pa_cons (pv 0) (pa_cons (pv 2) (pa_cons (pv 3) pa_nil)))))
        (pss_one (ps_if (pt_cmp (pc_isN (pv 2))) (pss_one (ps_ret pe_non)) pss_nil))))
      (pss_one (ps_ret (pv 2)))), ?_⟩
    refine ⟨.ref pl, rfl, pl, rfl, ⟨_, SqL.of hl⟩, for_it (walk_list (xs := vs)) (fun i σ H' => H' = H ∧ ∃ g y3, g < T.rows.length ∧ T.walk r = T.walkF g (r.drop i) ∧ σ = [some t, some (.ref pl), some (.int ((g : Nat) : Int)), y3]) ⟨rfl, 0, none, h0, rfl, rfl⟩ (fun i σ H' _ ⟨e, _⟩ => by subst e; exact SqL.of hl) ?_ ?_⟩
    · rintro i y σ H' H'' hi ⟨rfl, g, y3, hg, ew, rfl⟩ ⟨rfl, hy⟩
      obtain ⟨a, ha, ra⟩ := pget hp hy
      refine ⟨t, rfl, _, rfl, y, rfl, t, y, T, g, a, rfl, hT, hg, ra, ?_⟩
      have ed : r.drop i = a :: r.drop (i + 1) := by
        obtain ⟨hlt, e⟩ := List.getElem?_eq_some_iff.mp ha
        rw [← e]
        exact List.drop_eq_getElem_cons hlt
      rw [ed] at ew
      simp only [Tbl.walkF] at ew
      cases e : T.next g a with
      | none =>
        rw [e] at ew
        refine ⟨_, rfl, _, rfl, iteT ?_⟩
        rw [ew] at q
        exact q
      | some g' =>
        rw [e] at ew
        refine ⟨_, rfl, _, rfl, ite2 (fun z => ?_) (fun _ => ?_)⟩
        · exact absurd (of_decide_eq_true z) (fun z => nomatch z)
        · exact ⟨rfl, g', _, hin.next e, ew, rfl⟩
    · rintro σ H' ⟨rfl, g, y3, hg, ew, rfl⟩
      refine ⟨_, rfl, ?_⟩
      have : r.drop vs.length = [] := by rw [plen hp]; exact List.drop_length
      rw [this] at ew
      rw [ew] at q
      exact q
end
end PL
namespace PL
open PySem PySem.Spec PyProof.Rows L2
section
variable {α : Type} [DecidableEq α]
def ins (l : List α) (x : α) : List α := if x ∈ l then l else l ++ [x]
theorem mem_ins {l : List α} {x y : α} : y ∈ ins l x ↔ y ∈ l ∨ y = x := by
  unfold ins
  split
  · rename_i h
    exact ⟨.inl, fun z => z.elim id fun e => e ▸ h⟩
  · simp
theorem nd_ins {l : List α} {x : α} (h : l.Nodup) : (ins l x).Nodup := by
  unfold ins
  split
  · exact h
  · rename_i hx
    refine List.nodup_append.mpr ⟨h, by simp, fun a ha b hb => ?_⟩
    have : b = x := by simpa using hb
    subst this
    exact fun e => hx (e ▸ ha)
theorem nodup_le : ∀ {l D : List α}, l.Nodup → (∀ x ∈ l, x ∈ D) → l.length ≤ D.length
  | [], _, _, _ => Nat.zero_le _
  | x :: l, D, hn, hs => by
    have hx : x ∈ D := hs x List.mem_cons_self
    have h1 := List.nodup_cons.mp hn
    have ih := nodup_le (l := l) (D := D.erase x) h1.2 fun y hy => by
      have hne : y ≠ x := fun e => h1.1 (e ▸ hy)
      exact (List.mem_erase_of_ne hne).mpr (hs y (List.mem_cons_of_mem _ hy))
    have he := List.length_erase_of_mem hx
    have hp := List.length_pos_of_mem hx
    rw [List.length_cons]
    omega
theorem putK_fst {κ : Type} [DecidableEq κ] (kvs : List (κ × V)) (k : κ) (v : V) : (putK kvs k v).map (·.1) = ins (kvs.map (·.1)) k := by
  unfold putK ins
  have e : ((kvs.any fun kv => decide (kv.1 = k)) = true) ↔ k ∈ kvs.map (·.1) := by
    simp only [List.any_eq_true, decide_eq_true_eq, List.mem_map]
  by_cases h : k ∈ kvs.map (·.1)
  · rw [if_pos h, if_pos (e.mpr h), List.map_map]
    apply List.map_congr_left
    intro x hx
    simp only [Function.comp_apply]
    split <;> rfl
  · rw [if_neg h, if_neg (fun z => h (e.mp z)), List.map_append]
    rfl
theorem ins_map {β : Type} [DecidableEq β] {f : α → β} (hf : ∀ a b, f a = f b → a = b) (l : List α) (x : α) : ins (l.map f) (f x) = (ins l x).map f := by
  unfold ins
  have e : f x ∈ l.map f ↔ x ∈ l := by
    rw [List.mem_map]
    exact ⟨fun ⟨a, h1, h2⟩ => hf _ _ h2 ▸ h1, fun h => ⟨x, h, rfl⟩⟩
  by_cases h : x ∈ l
  · rw [if_pos h, if_pos (e.mpr h)]
  · rw [if_neg h, if_neg (fun z => h (e.mp z)), List.map_append]
    rfl
end
theorem flat_snoc {α : Type} {l : List (List α)} {i : Nat} {x : List α} (h : l[i]? = some x) : (l.take (i + 1)).flatten = (l.take i).flatten ++ x := by
  rw [take_snoc h, List.flatten_append]
  simp
def Tbl.has (T : Tbl) (p : Str) : Prop := ∃ x ∈ T.rows.flatten, x.1.1 = p ∨ x.1.2.1 = p
abbrev sPart : Stmt := topS 15
theorem scPart : FnScope ["table", "found", "row", "action", "_"] ["table"] (defScope sPart) := ⟨rfl, rfl, rfl, by decide +kernel, rfl, by decide +kernel, by decide +kernel⟩
def spPart : Sp := fun vs H Q _ => ∃ t T, ∃ D : List Str, vs = [t] ∧ RTbl H t T ∧ D.length ≤ 60 ∧ (∀ p, T.has p → p ∈ D) ∧ ∀ (H' : Hp) (q : Addr) (ys : List Str), Same H H' → H q = none → H' q = some (.lst (ys.map V.str)) → ys.Nodup → (∀ p, p ∈ ys ↔ T.has p) → Q (.ref q) H'
def hasIn (l : List (Act × Nat)) (p : Str) : Prop := ∃ x ∈ l, x.1.1 = p ∨ x.1.2.1 = p
section
variable {P : Program} {w : World} {K : PySem.W.Frag} {mg : Str → Option Value} {base : Heap}
theorem ok_part {f : Addr} {fd : FuncData} {k : Nat} (F : Fun K "parties_of" "parties_of" sPart f fd) (mS : mg "sorted" = none) : FnOk P w K mg base CX0 (k + 1) f fd ["table"] spPart := by
  refine F.ok scPart (fun vs H Q E h => ?_) (fun cdv A outer s H vs Q E hr h => ?_)
  · obtain ⟨t, T, D, rfl, _⟩ := h
    rfl
  · obtain ⟨t, T, D, rfl, ⟨p, vr, ve, rfl, hp, ⟨pr, vrs, rfl, hpr, prs⟩, _⟩, hD, hsub, q⟩ := h
    have hu := hu_of hr
    refine ⟨_, pss_cons (ps_set (i := 1) scPart.nd rfl (.inl rfl) pe_dnewK)
      (pss_cons (ps_for PassesOwn.never rfl (pi_tup (pe_ix ix_tup (pv 0) pe_int (fun _ _ => rfl))) (pg_name (i := 2) scPart.nd rfl (.inl rfl))
        (pss_one (ps_for PassesOwn.never rfl (pi_tup (pv 2)) (pg_tup rfl (pgs_cons (pg_name (i := 3) scPart.nd rfl (.inl rfl)) (pgs_cons (pg_name (i := 4) scPart.nd rfl (.inl rfl)) pgs_nil)))
          (pss_cons (ps_dput hu (pv 1) (pe_ix ix_tup (pv 3) pe_int (fun _ _ => rfl)) pe_bl rfl)
          (pss_one (ps_dput hu (pv 1) (pe_ix ix_tup (pv 3) pe_int (fun _ _ => rfl)) pe_bl rfl))))))
      (pss_one (ps_ret (pe_callB (call_sortedD rfl) (by rfl) mS (by decide +kernel) (pa_cons (pv 1) pa_nil))))), ?_⟩
    intro d hd
    -- what the dict is behind some pairs
    let Inv1 : List (Act × Nat) → Hp → Prop := fun done H' => Same H H' ∧ ∃ (kvs : List (L2.Key × V)) (ks : List Str), H' d = some (.dK kvs) ∧ kvs.map (·.1) = ks.map Sum.inr ∧ ks.Nodup ∧ ∀ z : Str, z ∈ ks ↔ hasIn done z
    have bound : ∀ {done : List (Act × Nat)} {ks : List Str}, (∀ x ∈ done, x ∈ T.rows.flatten) → ks.Nodup → (∀ z, z ∈ ks ↔ hasIn done z) → ks.length ≤ 60 := by
      intro done ks h1 h2 h3
      refine Nat.le_trans (nodup_le h2 fun z hz => hsub z ?_) hD
      obtain ⟨x, hx, e⟩ := (h3 z).mp hz
      exact ⟨x, h1 x hx, e⟩
    refine ⟨.ref p, rfl, p, _, _, .ref pr, rfl, rfl, SqT.of (same_upd hd _ _ hp), atI_nat (j := 1) rfl, pr, rfl, ⟨_, SqT.of (same_upd hd _ _ hpr)⟩,
      for_it (walk_tup (xs := vrs)) (fun i σ H' => Inv1 (T.rows.take i).flatten H' ∧ ∃ y2 y3 y4, σ = [some (.ref p), some (.ref d), y2, y3, y4])
      ⟨⟨same_upd hd, [], [], upd_same, rfl, List.nodup_nil, fun z => ⟨(fun h => by cases h), (fun ⟨x, hx, _⟩ => by cases hx)⟩⟩, none, none, none, rfl⟩ (fun i σ H' _ ⟨⟨sm, _⟩, _⟩ => SqT.of (sm _ _ hpr)) ?_ ?_⟩
    · rintro i y σ H' H'' hi ⟨iv, y2, y3, y4, rfl⟩ ⟨rfl, hy⟩
      obtain ⟨row, hrow, p1, vs1, rfl, hp1, prow⟩ := pget prs hy
      refine ⟨.ref p1, rfl, p1, rfl, ⟨_, SqT.of (iv.1 _ _ hp1)⟩,
        for_it (walk_tup (xs := vs1)) (fun j σ H2 => Inv1 ((T.rows.take i).flatten ++ row.take j) H2 ∧ ∃ y3 y4, σ = [some (.ref p), some (.ref d), some (.ref p1), y3, y4]) ⟨by simpa using iv, _, _, rfl⟩ (fun j σ H2 _ ⟨⟨sm, _⟩, _⟩ => SqT.of (sm _ _ hp1)) ?_ ?_⟩
      · rintro j y σ H2 H3 hj ⟨⟨sm, kvs, ks, hk, ek, nd, mem⟩, y3, y4, rfl⟩ ⟨rfl, hy'⟩
        obtain ⟨x, hx, p2, va, vb, rfl, hp2, ⟨pa, rfl, hpa⟩, hvb⟩ := pget prow hy'
        have inT : ∀ z ∈ (T.rows.take i).flatten ++ row.take j, z ∈ T.rows.flatten := by
          intro z hz
          rcases List.mem_append.mp hz with hz | hz
          · obtain ⟨l, hl, hz⟩ := List.mem_flatten.mp hz
            exact List.mem_flatten.mpr ⟨l, List.mem_of_mem_take hl, hz⟩
          · exact List.mem_flatten.mpr ⟨row, List.mem_of_getElem? hrow, List.mem_of_mem_take hz⟩
        have hks := bound inT nd mem
        have hkl : kvs.length = ks.length := by have := congrArg List.length ek; simpa using this
        have a1 : H3 pa = some (.tup (actV x.1)) := sm _ _ hpa
        have nda : pa ≠ d := ne_of a1 hk (fun z => nomatch z)
        refine ⟨p2, _, rfl, SqT.of (sm _ _ hp2), rfl, .ref pa, _, rfl, vb, _, rfl, rfl, ?_⟩
        refine ⟨_, rfl, .ref pa, rfl, pa, _, _, _, rfl, rfl, SqT.of a1, atI_nat (j := 0) rfl, d, _, rfl, DPut.k (k := Sum.inr x.1.1) hk (by rw [sizeLine_eq]; omega), ?_⟩
        refine ⟨_, rfl, .ref pa, rfl, pa, _, _, _, rfl, rfl, SqT.of (by rw [upd_ne nda]; exact a1), atI_nat (j := 1) rfl, d, _, rfl, DPut.k (k := Sum.inr x.1.2.1) upd_same ?_, ?_⟩
        · have := length_putK kvs (Sum.inr x.1.1 : L2.Key) (.bl true)
          rw [sizeLine_eq]
          omega
        · have inj : ∀ a b : Str, (Sum.inr a : L2.Key) = Sum.inr b → a = b := fun a b e => Sum.inr.inj e
          refine ⟨⟨by rw [upd_upd]; exact same_re sm hd, _, ins (ins ks x.1.1) x.1.2.1, upd_same, ?_, nd_ins (nd_ins nd), fun z => ?_⟩, _, _, rfl⟩
          · rw [putK_fst, putK_fst, ek, ins_map inj, ins_map inj]
          · rw [mem_ins, mem_ins, mem, take_snoc hx, ← List.append_assoc]
            constructor
            · rintro ((⟨u, hu, e⟩ | e) | e)
              · exact ⟨u, List.mem_append_left _ hu, e⟩
              · exact ⟨x, by simp, .inl e.symm⟩
              · exact ⟨x, by simp, .inr e.symm⟩
            · rintro ⟨u, hu, e⟩
              rcases List.mem_append.mp hu with hu | hu
              · exact .inl (.inl ⟨u, hu, e⟩)
              · have : u = x := by simpa using hu
                subst this
                rcases e with e | e
                · exact .inl (.inr e.symm)
                · exact .inr e.symm
      · rintro σ H2 ⟨iv2, y3, y4, rfl⟩
        refine ⟨?_, _, _, _, rfl⟩
        have : row.take vs1.length = row := by rw [plen prow]; exact List.take_length
        rw [this, ← flat_snoc hrow] at iv2
        exact iv2
    · rintro σ H' ⟨⟨sm, kvs, ks, hk, ek, nd, mem⟩, y2, y3, y4, rfl⟩
      have et : T.rows.take vrs.length = T.rows := by rw [plen prs]; exact List.take_length
      rw [et] at mem
      have hks := bound (fun x hx => hx) nd mem
      refine ⟨.ref d, rfl, d, kvs, ks, rfl, .inl hk, ek, by omega, fun ys l pm _ nl => ?_⟩
      refine q _ l ys (sm.trans (same_upd nl)) (sm.free nl) upd_same (pm.nodup_iff.mpr nd) fun z => ?_
      rw [pm.mem_iff, mem]
      rfl
end
end PL
namespace PL
open PySem PySem.Spec PyProof.Rows L2
structure Tbl.OK (T : Tbl) : Prop where
  inb : T.Inb
  len : T.ends.length = T.rows.length
  pos : 0 < T.rows.length
  nd : ∀ row ∈ T.rows, (row.map (·.1)).Nodup
theorem look_of {r : List (Act × Nat)} (h : (r.map (·.1)).Nodup) {p : Act × Nat} (hp : p ∈ r) : look r p.1 = some p.2 := by
  induction r with
  | nil => cases hp
  | cons q r ih =>
    have h1 := List.nodup_cons.mp h
    unfold look
    rcases List.mem_cons.mp hp with e | hp
    · subst e
      rw [if_pos rfl]
    · rw [if_neg, ih h1.2 hp]
      intro e
      exact h1.1 (List.mem_map.mpr ⟨p, hp, e.symm⟩)
theorem Tbl.OK.next_of {T : Tbl} (h : T.OK) {s : Nat} {row : List (Act × Nat)} (hr : T.rows[s]? = some row) {p : Act × Nat} (hp : p ∈ row) : T.next s p.1 = some p.2 := by
  unfold Tbl.next
  rw [List.getD_eq_getElem?_getD, hr]
  exact look_of (h.nd row (List.mem_of_getElem? hr)) hp
theorem Tbl.OK.of_next {T : Tbl} {s : Nat} {a : Act} {g : Nat} (e : T.next s a = some g) : ∃ row, T.rows[s]? = some row ∧ (a, g) ∈ row := by
  unfold Tbl.next at e
  rw [List.getD_eq_getElem?_getD] at e
  cases h : T.rows[s]? with
  | none => rw [h] at e; cases e
  | some row =>
    rw [h] at e
    exact ⟨row, rfl, look_mem e⟩
/-- reached by actions that the party does not see -/
def UR (T : Tbl) (p : Str) (s g : Nat) : Prop := ∃ u : List Act, (∀ a ∈ u, conc a p = false) ∧ T.walkF s u = some g
theorem UR.self {T : Tbl} {p : Str} {s : Nat} : UR T p s s := ⟨[], by simp, rfl⟩
theorem UR.more {T : Tbl} {p : Str} {s g g' : Nat} {a : Act} (h : UR T p s g) (ha : conc a p = false) (e : T.next g a = some g') : UR T p s g' := by
  obtain ⟨u, h1, h2⟩ := h
  refine ⟨u ++ [a], fun b hb => ?_, ?_⟩
  · rcases List.mem_append.mp hb with hb | hb
    · exact h1 b hb
    · have : b = a := by simpa using hb
      exact this ▸ ha
  · rw [Tbl.walkF_app, h2]
    simp [Tbl.walkF, e]
/-- a list that holds s and is closed holds all that is reached -/
theorem UR.closed {T : Tbl} {p : Str} {l : List Nat} (hc : ∀ k ∈ l, ∀ a g, conc a p = false → T.next k a = some g → g ∈ l) : ∀ {u : List Act} {s g : Nat}, s ∈ l → (∀ a ∈ u, conc a p = false) → T.walkF s u = some g → g ∈ l
  | [], s, g, hs, _, e => by
    cases e
    exact hs
  | a :: u, s, g, hs, ha, e => by
    simp only [Tbl.walkF] at e
    cases h : T.next s a with
    | none => rw [h] at e; cases e
    | some g' =>
      rw [h] at e
      exact UR.closed hc (hc s hs a g' (ha a List.mem_cons_self) h) (fun b hb => ha b (List.mem_cons_of_mem _ hb)) e
abbrev Asc (l : List Nat) : Prop := l.Pairwise (· < ·)
theorem asc_of {l : List Int} {ns : List Nat} (h : l.Pairwise (· ≤ ·)) (hn : l.Nodup) (e : l = ns.map fun n : Nat => (n : Int)) : Asc ns := by
  subst e
  have h2 : (ns.map fun n : Nat => (n : Int)).Pairwise fun a b => a ≤ b ∧ a ≠ b := h.and hn
  rw [List.pairwise_map] at h2
  exact h2.imp fun {a b} z => by omega
theorem nats_of : ∀ {l : List Int}, (∀ z ∈ l, 0 ≤ z) → ∃ ns : List Nat, l = ns.map fun n : Nat => (n : Int)
  | [], _ => ⟨[], rfl⟩
  | z :: l, h => by
    obtain ⟨ns, e⟩ := nats_of (l := l) fun y hy => h y (List.mem_cons_of_mem _ hy)
    have hz := h z List.mem_cons_self
    exact ⟨z.toNat :: ns, by rw [e, List.map_cons]; congr 1; omega⟩
theorem asc_ext : ∀ {l m : List Nat}, Asc l → Asc m → (∀ x, x ∈ l ↔ x ∈ m) → l = m
  | [], [], _, _, _ => rfl
  | [], y :: m, _, _, h => by have := (h y).mpr List.mem_cons_self; cases this
  | x :: l, [], _, _, h => by have := (h x).mp List.mem_cons_self; cases this
  | x :: l, y :: m, hl, hm, h => by
    have a1 := List.pairwise_cons.mp hl
    have a2 := List.pairwise_cons.mp hm
    have e : x = y := by
      rcases List.mem_cons.mp ((h x).mp List.mem_cons_self) with e | h1
      · exact e
      · rcases List.mem_cons.mp ((h y).mpr List.mem_cons_self) with e | h2
        · exact e.symm
        · have b1 := a1.1 y h2
          have b2 := a2.1 x h1
          omega
    subst e
    rw [asc_ext a1.2 a2.2 fun z => ?_]
    constructor
    · intro hz
      rcases List.mem_cons.mp ((h z).mp (List.mem_cons_of_mem _ hz)) with e | hz'
      · subst e; have := a1.1 z hz; omega
      · exact hz'
    · intro hz
      rcases List.mem_cons.mp ((h z).mpr (List.mem_cons_of_mem _ hz)) with e | hz'
      · subst e; have := a2.1 z hz; omega
      · exact hz'
theorem Asc.nodup {l : List Nat} (h : Asc l) : l.Nodup := h.imp fun {a b} z => by omega
theorem lt_len {l : List Nat} {n : Nat} (h : l.Nodup) (hl : ∀ x ∈ l, x < n) : l.length ≤ n := by
  have := nodup_le (D := List.range n) h fun x hx => List.mem_range.mpr (hl x hx)
  simpa using this
abbrev sUnseen : Stmt := topS 18
theorem scUnseen : FnScope ["table", "state", "party", "seen", "found", "waiting", "action", "goal"] ["table", "state", "party", "seen"] (defScope sUnseen) := ⟨rfl, rfl, rfl, by decide +kernel, rfl, by decide +kernel, by decide +kernel⟩
def spUnseen : Sp := fun vs H Q _ => ∃ t T s p, vs = [t, .int ((s : Nat) : Int), .str p, .bl true] ∧ RTbl H t T ∧ T.OK ∧ T.rows.length ≤ 60 ∧ s < T.rows.length ∧
  ∀ (H' : Hp) (q : Addr) (l : List Nat), Same H H' → H q = none → RTup RNat H' (.ref q) l → Asc l → (∀ g, g ∈ l ↔ UR T p s g) → Q (.ref q) H'
def keyN (n : Nat) : L2.Key := .inl (n : Int)
theorem keyN_inj : ∀ a b, keyN a = keyN b → a = b := fun a b e => by
  have : (a : Int) = b := Sum.inl.inj e
  omega
section
variable {P : Program} {w : World} {K : PySem.W.Frag} {mg : Str → Option Value} {base : Heap}
theorem ok_unseen {f fC : Addr} {fd fdC : FuncData} {k : Nat} (F : Fun K "reached_unseen" "reached_unseen" sUnseen f fd) (FC : Fun K "concerns" "concerns" sConc fC fdC) (bC : Binds K fdC ["action", "party"] []) (gC : mg "concerns" = some (.ref fC))
    (mS : mg "sorted" = none) (mT : mg "tuple" = none) : FnOk P w K mg base CX0 (k + 2) f fd ["table", "state", "party", "seen"] spUnseen := by
  have GC : FnOk P w K mg base CX0 (k + 1) fC fdC ["action", "party"] spConc := ok_conc FC
  refine F.ok scUnseen (fun vs H Q E h => ?_) (fun cdv A outer s0 H vs Q E hr h => ?_)
  · obtain ⟨t, T, s, p, rfl, _⟩ := h
    rfl
  · obtain ⟨t, T, s, p, rfl, ⟨pt, vr, ve, rfl, hp, ⟨pr, vrs, rfl, hpr, prs⟩, _⟩, hok, h60, hs, q⟩ := h
    have hu := hu_of hr
    refine ⟨_, pss_cons (ps_set (i := 4) scUnseen.nd rfl (.inl rfl) (pe_disp (pps_cons (pv 1) pe_bl pps_nil) (by rfl) (by rfl) (fun z => by cases z) (by decide)))
      (pss_cons (ps_set (i := 5) scUnseen.nd rfl (.inl rfl) (pe_lst (pa_cons (pv 1) pa_nil)))
      (pss_cons (ps_while PassesOwn.never (pt_truth (pv 5) (by intro _; rfl))
        (pss_one (ps_for PassesOwn.never rfl (pi_tup (pe_ix ix_tup (pe_ix ix_tup (pv 0) pe_int (fun _ _ => rfl)) (pe_bm0 PySem.F.plainAttrs_list PySem.F.slot_list_pop PySem.F.type_list_pop mt_pop (pv 5)) (fun _ _ => rfl)))
          (pg_tup rfl (pgs_cons (pg_name (i := 6) scUnseen.nd rfl (.inl rfl)) (pgs_cons (pg_name (i := 7) scUnseen.nd rfl (.inl rfl)) pgs_nil)))
          (pss_one (ps_if (PW.pt (pw_and (pt_cmpR op_ne (pe_call GC hr (by rfl) gC FC.kp bC .nil pass0 (pa_cons (pv 6) (pa_cons (pv 2) pa_nil))) (pv 3) (nomark _)) (pw_and1 (pt_cmp (pc_dnotin hu (pv 7) (pv 4))))))
            (pss_cons (ps_dput hu (pv 4) (pv 7) pe_bl rfl)
            (pss_one (ps_expr (pe_bm PySem.F.plainAttrs_list PySem.F.slot_list_append PySem.F.type_list_append mt_append (pv 5) (pa_cons (pv 7) pa_nil))))) pss_nil)))))
      (pss_one (ps_ret (pe_callTy call_tuple_of (by rfl) mT (by decide +kernel) (pa_cons (pe_callB (call_sortedDI rfl) (by rfl) mS (by decide +kernel) (pa_cons (pv 4) pa_nil)) pa_nil)))))), ?_⟩
    intro d hd
    refine ⟨_, rfl, ?_⟩
    refine ⟨upd_same, [(keyN s, .bl true)], rfl, Nat.le_of_ble_eq_true rfl, ?_⟩
    rw [upd_upd]
    refine ⟨_, rfl, Nat.le_of_ble_eq_true rfl, fun l hl => ?_⟩
    have ndl : l ≠ d := fun e => by subst e; rw [upd_same] at hl; cases hl
    have hl0 : H l = none := by rw [upd_ne ndl] at hl; exact hl
    -- the state between two turns
    let St1 : List Nat → List Nat → Hp → Prop := fun ks ws H' => Same H H' ∧ (∃ kvs : List (L2.Key × V), H' d = some (.dK kvs) ∧ kvs.map (·.1) = ks.map keyN) ∧ H' l = some (.lst (ws.map fun n : Nat => V.int (n : Int))) ∧
      ks.Nodup ∧ (∀ k ∈ ks, k < T.rows.length ∧ UR T p s k) ∧ s ∈ ks ∧ ∀ k ∈ ws, k ∈ ks
    let Clo : List Nat → Nat → Prop := fun ks c => ∀ a g, conc a p = false → T.next c a = some g → g ∈ ks
    refine ⟨fun m σ H' => ∃ ks ws y6 y7, σ = [some (.ref pt), some (.int (s : Nat)), some (.str p), some (.bl true), some (.ref d), some (.ref l), y6, y7] ∧ St1 ks ws H' ∧ (∀ k ∈ ks, k ∉ ws → Clo ks k) ∧ m = 2 * (T.rows.length - ks.length) + ws.length ∧ m ≤ 200,
      ⟨_, [s], [s], none, none, rfl, ⟨?_, ⟨[(keyN s, .bl true)], ?_, rfl⟩, upd_same, by simp, ?_, by simp, by simp⟩, ?_, rfl, by simp; omega⟩, ?_⟩
    · exact same_re (same_upd hd) hl0
    · rw [upd_ne ndl.symm, upd_same]
      rfl
    · intro k hk
      have : k = s := by simpa using hk
      subst this
      exact ⟨hs, UR.self⟩
    · intro k hk hk'
      exact absurd hk hk'
    · rintro m σ H' ⟨ks, ws, y6, y7, rfl, ⟨sm, ⟨kvs, hk, ek⟩, hw, nd, lt, hsk, sub⟩, clo, rfl, m200⟩
      have hkl : ks.length ≤ T.rows.length := lt_len nd fun k hk => (lt k hk).1
      refine ⟨.ref l, rfl, _, .inl ⟨_, SqL.of hw, rfl⟩, ?_⟩
      cases hws : ws with
      | nil =>
        -- all is found
        subst hws
        refine iteF ?_
        refine ⟨.ref d, rfl, d, kvs, ks.map fun n : Nat => (n : Int), rfl, .inl hk, by rw [ek, List.map_map]; rfl, by rw [List.length_map]; omega, fun ys l2 pm asc nl2 => ?_⟩
        obtain ⟨ns, en⟩ := nats_of (l := ys) fun z hz => by
          obtain ⟨n, _, e⟩ := List.mem_map.mp (pm.mem_iff.mp hz)
          omega
        have nd' : ys.Nodup := pm.nodup_iff.mpr (by
          refine List.pairwise_map.mpr (nd.imp fun {a b} h e => h ?_)
          omega)
        refine ⟨l2, _, rfl, .inl ⟨SqL.of upd_same, fun l3 nl3 => ?_⟩⟩
        have nl3' : H' l3 = none := by
          by_cases e : l3 = l2
          · subst e; rw [upd_same] at nl3; cases nl3
          · rw [upd_ne e] at nl3; exact nl3
        have sm2 : Same H (upd (upd H' l2 (.lst (ys.map V.int))) l3 (.tup (ys.map V.int))) := (sm.trans (same_upd nl2)).trans (same_upd nl3)
        refine q _ l3 ns sm2 (sm.free nl3') ⟨l3, _, rfl, upd_same, ?_⟩ (asc_of asc nd' en) fun g => ?_
        · rw [en, List.map_map]
          exact natp
        · have e1 : g ∈ ns ↔ g ∈ ks := by
            have h1 : (g : Int) ∈ ys ↔ (g : Int) ∈ ks.map fun n : Nat => (n : Int) := pm.mem_iff
            rw [en, List.mem_map, List.mem_map] at h1
            constructor
            · intro h
              obtain ⟨a, ha, e⟩ := h1.mp ⟨g, h, rfl⟩
              have : a = g := by omega
              exact this ▸ ha
            · intro h
              obtain ⟨a, ha, e⟩ := h1.mpr ⟨g, h, rfl⟩
              have : a = g := by omega
              exact this ▸ ha
          rw [e1]
          refine ⟨fun h => (lt g h).2, fun ⟨u, h1, h2⟩ => ?_⟩
          exact UR.closed (fun k hk => clo k hk (by simp)) hsk h1 h2
      | cons w0 wr =>
        rw [← hws]
        have hne : ws ≠ [] := by rw [hws]; simp
        have ht : (!(ws.map fun n : Nat => V.int (n : Int)).isEmpty) = true := by rw [hws]; rfl
        rw [ht]
        refine iteT ⟨fun σ' H'' => ∃ m', m' < 2 * (T.rows.length - ks.length) + ws.length ∧ _, fun _ _ h => h, ?_⟩
        -- the last one is taken
        obtain ⟨ws', c, ews⟩ : ∃ ws' c, ws = ws' ++ [c] := ⟨ws.dropLast, ws.getLast hne, (List.dropLast_concat_getLast hne).symm⟩
        have hck : c ∈ ks := sub c (by rw [ews]; simp)
        obtain ⟨row, hrow⟩ : ∃ row, T.rows[c]? = some row := ⟨_, List.getElem?_eq_getElem (lt c hck).1⟩
        obtain ⟨rv, hrv, p1, vs1, rfl, hp1, prow⟩ := pget' prs hrow
        have hlast : (ws.map fun n : Nat => V.int (n : Int))[(ws.map fun n : Nat => V.int (n : Int)).length - 1]? = some (.int (c : Int)) := by
          rw [ews]
          simp
        have hdrop : (ws.map fun n : Nat => V.int (n : Int)).dropLast = ws'.map fun n : Nat => V.int (n : Int) := by
          rw [ews]
          simp
        have npt : pt ≠ l := ne_of_none hp hl0
        have npr : pr ≠ l := ne_of_none hpr hl0
        have np1 : p1 ≠ l := ne_of_none hp1 hl0
        have sm' : Same H (upd H' l (.lst (ws'.map fun n : Nat => V.int (n : Int)))) := same_re sm hl0
        have kd : (upd H' l (.lst (ws'.map fun n : Nat => V.int (n : Int)))) d = some (.dK kvs) := by rw [upd_ne ndl.symm]; exact hk
        refine ⟨.ref pt, rfl, pt, _, _, .ref pr, rfl, rfl, SqT.of (sm _ _ hp), atI_nat (j := 1) rfl, .ref l, rfl, .inl ⟨rfl, _, .inl (.inl hw)⟩, l, _, _, rfl, rfl, hw, hlast, ?_⟩
        rw [hdrop]
        refine ⟨pr, _, _, _, rfl, rfl, SqT.of (sm' _ _ hpr), atI_nat hrv, p1, rfl, ⟨_, SqT.of (sm' _ _ hp1)⟩, ?_⟩
        refine for_it (walk_tup (xs := vs1)) (fun j σ H2 => ∃ ks2 ws2 y6 y7, σ = [some (.ref pt), some (.int (s : Nat)), some (.str p), some (.bl true), some (.ref d), some (.ref l), y6, y7] ∧ St1 ks2 ws2 H2 ∧
            (∀ k ∈ ks2, k ∉ ws2 → k = c ∨ Clo ks2 k) ∧ (∀ x ∈ row.take j, conc x.1 p = false → x.2 ∈ ks2) ∧ 2 * (T.rows.length - ks2.length) + ws2.length ≤ 2 * (T.rows.length - ks.length) + ws'.length)
          ⟨ks, ws', _, _, rfl, ⟨sm', ⟨kvs, kd, ek⟩, upd_same, nd, lt, hsk, fun k hk => sub k (by rw [ews]; simp [hk])⟩, ?_, by simp, Nat.le_refl _⟩ (fun j σ H2 _ ⟨_, _, _, _, _, ⟨sm2, _⟩, _⟩ => SqT.of (sm2 _ _ hp1)) ?_ ?_
        · intro k hk1 hk2
          by_cases e : k = c
          · exact .inl e
          · refine .inr (clo k hk1 ?_)
            rw [ews]
            simp [hk2, e]
        · rintro j y σ H2 H3 hj ⟨ks2, ws2, y6, y7, rfl, ⟨sm2, ⟨kvs2, hk2, ek2⟩, hw2, nd2, lt2, hsk2, sub2⟩, clo2, don2, mea2⟩ ⟨rfl, hy⟩
          obtain ⟨x, hx, p2, va, vb, rfl, hp2, hva, hvb⟩ := pget prow hy
          have hb : vb = .int (x.2 : Int) := hvb
          subst hb
          have hxm : x ∈ row := List.mem_of_getElem? hx
          have hks2 : ks2.length ≤ T.rows.length := lt_len nd2 fun k hk => (lt2 k hk).1
          refine ⟨p2, _, rfl, SqT.of (sm2 _ _ hp2), rfl, va, _, rfl, _, _, rfl, rfl, ?_⟩
          refine ⟨va, rfl, .str p, rfl, va, x.1, p, rfl, RAct.mono _ _ _ _ sm2 hva, .bl true, rfl, rfl, _, rfl, ite2 (fun e1 => ?_) (fun e1 => ?_)⟩
          · have e1' : conc x.1 p = false := by
              cases h : conc x.1 p with
              | false => rfl
              | true => rw [h] at e1; simp at e1
            refine ⟨_, rfl, _, rfl, d, _, rfl, DGet.k (k := keyN x.2) hk2, _, rfl, ?_⟩
            have hmem : (valV kvs2 (keyN x.2)).isSome = true ↔ x.2 ∈ ks2 := by
              rw [← valV_any, List.any_eq_true]
              simp only [decide_eq_true_eq]
              have : (∃ kv ∈ kvs2, kv.1 = keyN x.2) ↔ keyN x.2 ∈ kvs2.map (·.1) := by simp [List.mem_map]
              rw [this, ek2, List.mem_map]
              exact ⟨fun ⟨a, h1, h2⟩ => keyN_inj _ _ h2 ▸ h1, fun h => ⟨_, h, rfl⟩⟩
            have hnx : T.next c x.1 = some x.2 := hok.next_of hrow hxm
            refine ite2 (fun e2 => ?_) (fun e2 => ?_)
            · -- a new one
              have hnew : x.2 ∉ ks2 := fun z => by
                rw [hmem.mpr z] at e2
                cases e2
              have hvn : valV kvs2 (keyN x.2) = none := by
                cases h : valV kvs2 (keyN x.2) with
                | none => rfl
                | some v => exact absurd (hmem.mp (by rw [h]; rfl)) hnew
              have hkl2 : kvs2.length = ks2.length := by have := congrArg List.length ek2; simpa using this
              have hwl' : ws.length = ws'.length + 1 := by rw [ews]; simp
              have hwl : ws2.length ≤ 1000000 := by omega
              refine ⟨_, rfl, _, rfl, d, _, rfl, DPut.k (k := keyN x.2) hk2 (by rw [sizeLine_eq]; omega), ?_⟩
              have hw3 : (upd H3 d (.dK (putK kvs2 (keyN x.2) (.bl true)))) l = some (.lst (ws2.map fun n : Nat => V.int (n : Int))) := by rw [upd_ne ndl]; exact hw2
              refine ⟨.ref l, rfl, .inl ⟨rfl, _, .inl (.inl hw3)⟩, _, rfl, l, _, _, rfl, rfl, hw3, by rw [List.length_map, sizeLine_eq]; omega, ?_⟩
              refine ⟨ks2 ++ [x.2], ws2 ++ [x.2], _, _, rfl, ⟨same_re (same_re sm2 hd) hl0, ⟨_, by rw [upd_ne ndl.symm, upd_same], ?_⟩, by rw [upd_same, List.map_append]; rfl, ?_, ?_, List.mem_append_left _ hsk2, ?_⟩, ?_, ?_, ?_⟩
              · rw [putK_new _ hvn, List.map_append, List.map_append, ek2]
                rfl
              · refine List.nodup_append.mpr ⟨nd2, by simp, fun a ha b hb => ?_⟩
                have : b = x.2 := by simpa using hb
                subst this
                exact fun e => hnew (e ▸ ha)
              · intro k hk
                rcases List.mem_append.mp hk with hk | hk
                · exact lt2 k hk
                · have : k = x.2 := by simpa using hk
                  subst this
                  exact ⟨hok.inb _ (List.mem_of_getElem? hrow) _ hxm, UR.more (lt c hck).2 e1' hnx⟩
              · intro k hk
                rcases List.mem_append.mp hk with hk | hk
                · exact List.mem_append_left _ (sub2 k hk)
                · exact List.mem_append_right _ hk
              · intro k h1 h2
                rcases List.mem_append.mp h1 with h1 | h1
                · rcases clo2 k h1 (fun z => h2 (List.mem_append_left _ z)) with e | e
                  · exact .inl e
                  · exact .inr fun a g ha hg => List.mem_append_left _ (e a g ha hg)
                · exact absurd (List.mem_append_right _ h1) h2
              · intro z hz hc
                rw [take_snoc hx] at hz
                rcases List.mem_append.mp hz with hz | hz
                · exact List.mem_append_left _ (don2 z hz hc)
                · have : z = x := by simpa using hz
                  subst this
                  exact List.mem_append_right _ (by simp)
              · have h1 : ks2.length + 1 ≤ T.rows.length := by
                  have := lt_len (l := ks2 ++ [x.2]) (n := T.rows.length) (List.nodup_append.mpr ⟨nd2, by simp, fun a ha b hb => by
                    have : b = x.2 := by simpa using hb
                    subst this
                    exact fun e => hnew (e ▸ ha)⟩) (fun k hk => by
                    rcases List.mem_append.mp hk with hk | hk
                    · exact (lt2 k hk).1
                    · have : k = x.2 := by simpa using hk
                      subst this
                      exact hok.inb _ (List.mem_of_getElem? hrow) _ hxm)
                  simpa using this
                simp only [List.length_append, List.length_cons, List.length_nil]
                omega
            · have hin : x.2 ∈ ks2 := hmem.mp (by
                cases h : (valV kvs2 (keyN x.2)).isSome with
                | true => rfl
                | false => rw [h] at e2; exact absurd rfl e2)
              refine ⟨ks2, ws2, _, _, rfl, ⟨sm2, ⟨kvs2, hk2, ek2⟩, hw2, nd2, lt2, hsk2, sub2⟩, clo2, fun z hz hc => ?_, mea2⟩
              rw [take_snoc hx] at hz
              rcases List.mem_append.mp hz with hz | hz
              · exact don2 z hz hc
              · have : z = x := by simpa using hz
                subst this
                exact hin
          · refine iteF ?_
            refine ⟨ks2, ws2, _, _, rfl, ⟨sm2, ⟨kvs2, hk2, ek2⟩, hw2, nd2, lt2, hsk2, sub2⟩, clo2, fun z hz hc => ?_, mea2⟩
            rw [take_snoc hx] at hz
            rcases List.mem_append.mp hz with hz | hz
            · exact don2 z hz hc
            · have : z = x := by simpa using hz
              subst this
              rw [hc] at e1
              simp at e1
        · rintro σ H2 ⟨ks2, ws2, y6, y7, rfl, iv2, clo2, don2, mea2⟩
          have et : row.take vs1.length = row := by rw [plen prow]; exact List.take_length
          rw [et] at don2
          have hwl' : ws.length = ws'.length + 1 := by rw [ews]; simp
          refine ⟨2 * (T.rows.length - ks2.length) + ws2.length, by omega, ks2, ws2, _, _, rfl, iv2, fun k h1 h2 => ?_, rfl, by omega⟩
          · rcases clo2 k h1 h2 with e | e
            · subst e
              intro a g ha hg
              obtain ⟨row', hr', hm⟩ := Tbl.OK.of_next hg
              rw [hrow] at hr'
              cases hr'
              exact don2 _ hm ha
            · exact e
end
end PL
namespace PL
open PySem PySem.Spec PyProof.Rows L2
abbrev Mv := List (List (Act × List Nat))
abbrev RMr : Rl (List (Act × List Nat)) := RLst (RPr RAct (RTup RNat))
abbrev RMv : Rl Mv := RLst RMr
theorem RMv.mono : Mono RMv := RLst.mono (RLst.mono (RPr.mono RAct.mono (RTup.mono RNat.mono)))
theorem actK_inj {a b : Act} (h : actK a = actK b) : a = b := by
  obtain ⟨a1, a2, a3⟩ := a
  obtain ⟨b1, b2, b3⟩ := b
  simp only [actK, List.cons.injEq, Sum.inr.injEq, and_true] at h
  obtain ⟨h1, h2, h3⟩ := h
  rw [h1, h2, h3]
/-- a dict by actions -/
def RGr {α : Type} (R : Rl α) : Rl (List (Act × α)) := fun H v gs => ∃ D kvs, v = .ref D ∧ H D = some (.dT kvs) ∧ Paired (fun (kv : List L2.Key × V) g => kv.1 = actK g.1 ∧ R H kv.2 g.2) kvs gs
theorem valV_acts (f : Act → V) (a : Act) : ∀ as : List Act, valV (as.map fun b => (actK b, f b)) (actK a) = if a ∈ as then some (f a) else none
  | [] => rfl
  | b :: as => by
    rw [List.map_cons]
    by_cases h : b = a
    · subst h
      rw [valV_pos rfl, if_pos List.mem_cons_self]
    · rw [valV_neg (fun e => h (actK_inj e)), valV_acts f a as]
      have : a ∈ b :: as ↔ a ∈ as := by
        rw [List.mem_cons]
        exact ⟨fun z => z.elim (fun e => absurd e.symm h) id, .inr⟩
      simp only [this]
/-- all that the moves of some nodes hold -/
def mvAt (mv : Mv) (ns : List Nat) : List (Act × List Nat) := (ns.map fun n => mv.getD n []).flatten
abbrev sGroup : Stmt := topS 5
abbrev nGroup : List Str := ["nodes", "moves", "groups", "node", "action", "goals", "goal", "other"]
theorem scGroup : FnScope nGroup ["nodes", "moves"] (defScope sGroup) := ⟨rfl, rfl, rfl, by decide +kernel, rfl, by decide +kernel, by decide +kernel⟩
/-- in the order in which they are met -/
def actsO (l : List Act) : List Act := l.foldl ins []
theorem actsO_snoc (l : List Act) (a : Act) : actsO (l ++ [a]) = ins (actsO l) a := by
  unfold actsO
  rw [List.foldl_append]
  rfl
def spGroup : Sp := fun vs H Q _ => ∃ x y mv, ∃ ns : List Nat, vs = [x, y] ∧ RTup RNat H x ns ∧ RMv H y mv ∧ (∀ n ∈ ns, n < mv.length) ∧ (∀ x ∈ mvAt mv ns, ∀ g ∈ x.2, g < 60) ∧ (mvAt mv ns).length ≤ 100000 ∧
  ∀ (H' : Hp) (D : Addr) (gs : List (Act × List Nat)), Same H H' → H D = none → RGr (RTup RNat) H' (.ref D) gs → (gs.map (·.1)).Nodup → gs.map (·.1) = actsO ((mvAt mv ns).map (·.1)) → (∀ a, a ∈ gs.map (·.1) ↔ ∃ x ∈ mvAt mv ns, x.1 = a) →
    (∀ g ∈ gs, Asc g.2 ∧ ∀ n, n ∈ g.2 ↔ ∃ x ∈ mvAt mv ns, x.1 = g.1 ∧ n ∈ x.2) → Q (.ref D) H'
def rTupOf (K : PySem.W.Frag) : List V → Hp → VK → Prop := fun xs H Q => ∃ p ys, xs = [.ref p] ∧ ((SqL K H p ys ∧ ∀ l, H l = none → Q (.ref l) (upd H l (.tup ys))) ∨ (SqT K H p ys ∧ Q (.ref p) H))
theorem cr_tup {X : Cx} {K : PySem.W.Frag} (h : X.K = K) : CallR X (.type "tuple") (rTupOf K) := by
  subst h
  exact call_tuple_of
/-- the groups as they grow -/
structure GI (H0 : Hp) (d : Addr) (done : List (Act × List Nat)) (H : Hp) (as : List Act) (ad : Act → Addr) (li : Act → List Nat) : Prop where
  same : Same H0 H
  dict : H d = some (.dT (as.map fun a => (actK a, V.ref (ad a))))
  sub : ∀ a ∈ as, ∃ kvs : List (L2.Key × V), H (ad a) = some (.dK kvs) ∧ kvs.map (·.1) = (li a).map keyN
  inj : ∀ a ∈ as, ∀ b ∈ as, ad a = ad b → a = b
  new : ∀ a ∈ as, H0 (ad a) = none
  nd : as.Nodup
  mem : ∀ a, a ∈ as ↔ ∃ x ∈ done, x.1 = a
  lnd : ∀ a ∈ as, (li a).Nodup
  lmem : ∀ a ∈ as, ∀ n, n ∈ li a ↔ ∃ x ∈ done, x.1 = a ∧ n ∈ x.2
  ord : as = actsO (done.map (·.1))
theorem GI.len {H0 : Hp} {d : Addr} {done : List (Act × List Nat)} {H : Hp} {as : List Act} {ad : Act → Addr} {li : Act → List Nat} (g : GI H0 d done H as ad li) : as.length ≤ done.length := by
  have := nodup_le (D := done.map (·.1)) g.nd fun a ha => by
    obtain ⟨x, hx, e⟩ := (g.mem a).mp ha
    exact List.mem_map.mpr ⟨x, hx, e⟩
  simpa using this
/-- one goal more of the last action -/
theorem GI.goal {H0 : Hp} {d : Addr} {done : List (Act × List Nat)} {H : Hp} {as : List Act} {ad : Act → Addr} {li : Act → List Nat} {a : Act} {gl : List Nat} {n : Nat} {kvs : List (L2.Key × V)} (g : GI H0 d (done ++ [(a, gl)]) H as ad li) (ha : a ∈ as)
    (hk : H (ad a) = some (.dK kvs)) (ek : kvs.map (·.1) = (li a).map keyN) (hd0 : H0 d = none) (v : V) :
    GI H0 d (done ++ [(a, gl ++ [n])]) (upd H (ad a) (.dK (putK kvs (keyN n) v))) as ad (fun b => if b = a then ins (li a) n else li b) where
  same := same_re g.same (g.new a ha)
  dict := by
    rw [upd_ne (ne_of g.dict hk (fun z => nomatch z))]
    exact g.dict
  sub := fun b hb => by
    by_cases e : b = a
    · subst e
      refine ⟨_, upd_same, ?_⟩
      rw [putK_fst, ek, ins_map keyN_inj, if_pos rfl]
    · obtain ⟨kb, h1, h2⟩ := g.sub b hb
      refine ⟨kb, ?_, by rw [if_neg e]; exact h2⟩
      rw [upd_ne (fun z => e (g.inj b hb a ha z))]
      exact h1
  inj := g.inj
  new := g.new
  nd := g.nd
  mem := fun b => by
    rw [g.mem b]
    simp
  lnd := fun b hb => by
    split
    · exact nd_ins (g.lnd a ha)
    · exact g.lnd b hb
  lmem := fun b hb m => by
    by_cases e : b = a
    · subst e
      rw [if_pos rfl, mem_ins, g.lmem b ha m]
      constructor
      · rintro (⟨x, hx, e1, e2⟩ | e)
        · rcases List.mem_append.mp hx with hx | hx
          · exact ⟨x, List.mem_append_left _ hx, e1, e2⟩
          · have : x = (b, gl) := by simpa using hx
            subst this
            exact ⟨(b, gl ++ [n]), by simp, rfl, List.mem_append_left _ e2⟩
        · subst e
          exact ⟨(b, gl ++ [m]), by simp, rfl, by simp⟩
      · rintro ⟨x, hx, e1, e2⟩
        rcases List.mem_append.mp hx with hx | hx
        · exact .inl ⟨x, List.mem_append_left _ hx, e1, e2⟩
        · have : x = (b, gl ++ [n]) := by simpa using hx
          subst this
          rcases List.mem_append.mp e2 with e2 | e2
          · exact .inl ⟨(b, gl), by simp, rfl, e2⟩
          · exact .inr (by simpa using e2)
    · rw [if_neg e, g.lmem b hb m]
      constructor
      · rintro ⟨x, hx, e1, e2⟩
        rcases List.mem_append.mp hx with hx | hx
        · exact ⟨x, List.mem_append_left _ hx, e1, e2⟩
        · have : x = (a, gl) := by simpa using hx
          subst this
          exact absurd e1.symm e
      · rintro ⟨x, hx, e1, e2⟩
        rcases List.mem_append.mp hx with hx | hx
        · exact ⟨x, List.mem_append_left _ hx, e1, e2⟩
        · have : x = (a, gl ++ [n]) := by simpa using hx
          subst this
          exact absurd e1.symm e
  ord := by
    have h := g.ord
    simp only [List.map_append, List.map_cons, List.map_nil] at h ⊢
    exact h
/-- a known action comes again -/
theorem GI.again {H0 : Hp} {d : Addr} {done : List (Act × List Nat)} {H H' : Hp} {as : List Act} {ad : Act → Addr} {li : Act → List Nat} {a : Act} (g : GI H0 d done H as ad li) (ha : a ∈ as) (s : Same H H') : GI H0 d (done ++ [(a, [])]) H' as ad li where
  same := g.same.trans s
  dict := s _ _ g.dict
  sub := fun b hb => let ⟨kb, h1, h2⟩ := g.sub b hb; ⟨kb, s _ _ h1, h2⟩
  inj := g.inj
  new := g.new
  nd := g.nd
  mem := fun b => by
    rw [g.mem b]
    constructor
    · rintro ⟨x, hx, e⟩
      exact ⟨x, List.mem_append_left _ hx, e⟩
    · rintro ⟨x, hx, e⟩
      rcases List.mem_append.mp hx with hx | hx
      · exact ⟨x, hx, e⟩
      · have : x = (a, []) := by simpa using hx
        subst this
        exact e ▸ (g.mem a).mp ha
  lnd := g.lnd
  lmem := fun b hb n => by
    rw [g.lmem b hb n]
    constructor
    · rintro ⟨x, hx, e⟩
      exact ⟨x, List.mem_append_left _ hx, e⟩
    · rintro ⟨x, hx, e1, e2⟩
      rcases List.mem_append.mp hx with hx | hx
      · exact ⟨x, hx, e1, e2⟩
      · have : x = (a, []) := by simpa using hx
        subst this
        cases e2
  ord := by
    rw [List.map_append]
    show as = actsO (done.map (·.1) ++ [a])
    rw [actsO_snoc, ← g.ord]
    unfold ins
    rw [if_pos ha]
/-- a new action: its dict at p -/
theorem GI.fresh {H0 : Hp} {d p : Addr} {done : List (Act × List Nat)} {H : Hp} {as : List Act} {ad : Act → Addr} {li : Act → List Nat} {a : Act} (g : GI H0 d done H as ad li) (ha : a ∉ as) (hd0 : H0 d = none) (hp : H p = none) (ed : H d = some (.dT (as.map fun a => (actK a, V.ref (ad a))))) :
    GI H0 d (done ++ [(a, [])]) (upd (upd H p (.dK [])) d (.dT ((as.map fun a => (actK a, V.ref (ad a))) ++ [(actK a, .ref p)]))) (as ++ [a]) (fun b => if b = a then p else ad b) (fun b => if b = a then [] else li b) := by
  have npd : p ≠ d := fun e => by rw [e, ed] at hp; cases hp
  have keep : ∀ b ∈ as, (if b = a then p else ad b) = ad b := fun b hb => if_neg (fun e : b = a => ha (e ▸ hb))
  have adp : ∀ b ∈ as, ad b ≠ p := fun b hb e => by
    obtain ⟨kb, h1, _⟩ := g.sub b hb
    rw [e, hp] at h1
    cases h1
  refine ⟨same_re (g.same.trans (same_upd hp)) hd0, ?_, fun b hb => ?_, fun b hb c hc e => ?_, fun b hb => ?_, ?_, fun b => ?_, fun b hb => ?_, fun b hb n => ?_, ?_⟩
  · rw [upd_same, List.map_append]
    congr 2
    have h1 : (as.map fun b => (actK b, V.ref (if b = a then p else ad b))) = as.map fun b => (actK b, V.ref (ad b)) := List.map_congr_left fun b hb => by rw [keep b hb]
    rw [h1]
    simp
  · rcases List.mem_append.mp hb with hb | hb
    · obtain ⟨kb, h1, h2⟩ := g.sub b hb
      refine ⟨kb, ?_, by rw [if_neg (fun e : b = a => ha (e ▸ hb))]; exact h2⟩
      rw [keep b hb, upd_ne (fun e => ?_), upd_ne (adp b hb)]
      · exact h1
      · rw [e, ed] at h1
        cases h1
    · have : b = a := by simpa using hb
      subst this
      refine ⟨[], ?_, by simp⟩
      rw [if_pos rfl, upd_ne npd, upd_same]
  · rcases List.mem_append.mp hb with hb1 | hb1
    · rcases List.mem_append.mp hc with hc1 | hc1
      · rw [keep b hb1, keep c hc1] at e
        exact g.inj b hb1 c hc1 e
      · have ec : c = a := by simpa using hc1
        rw [keep b hb1, if_pos ec] at e
        exact absurd e (adp b hb1)
    · have eb : b = a := by simpa using hb1
      rcases List.mem_append.mp hc with hc1 | hc1
      · rw [keep c hc1, if_pos eb] at e
        exact absurd e.symm (adp c hc1)
      · have ec : c = a := by simpa using hc1
        exact eb.trans ec.symm
  · rcases List.mem_append.mp hb with hb | hb
    · rw [keep b hb]
      exact g.new b hb
    · have : b = a := by simpa using hb
      subst this
      rw [if_pos rfl]
      exact g.same.free hp
  · refine List.nodup_append.mpr ⟨g.nd, by simp, fun b hb c hc e => ?_⟩
    have : c = a := by simpa using hc
    subst this
    exact ha (e ▸ hb)
  · rw [List.mem_append, g.mem b]
    constructor
    · rintro (⟨x, hx, e⟩ | e)
      · exact ⟨x, List.mem_append_left _ hx, e⟩
      · have : b = a := by simpa using e
        subst this
        exact ⟨(b, []), by simp, rfl⟩
    · rintro ⟨x, hx, e⟩
      rcases List.mem_append.mp hx with hx | hx
      · exact .inl ⟨x, hx, e⟩
      · have : x = (a, []) := by simpa using hx
        subst this
        exact .inr (by simp [← e])
  · split
    · exact List.nodup_nil
    · rename_i e
      rcases List.mem_append.mp hb with hb | hb
      · exact g.lnd b hb
      · exact absurd (by simpa using hb) e
  · by_cases e : b = a
    · subst e
      rw [if_pos rfl]
      refine ⟨(fun z => by cases z), fun ⟨x, hx, e1, e2⟩ => ?_⟩
      rcases List.mem_append.mp hx with hx | hx
      · exact absurd ((g.mem b).mpr ⟨x, hx, e1⟩) ha
      · have : x = (b, []) := by simpa using hx
        subst this
        exact e2
    · rw [if_neg e]
      have hb' : b ∈ as := by
        rcases List.mem_append.mp hb with hb | hb
        · exact hb
        · exact absurd (by simpa using hb) e
      rw [g.lmem b hb' n]
      constructor
      · rintro ⟨x, hx, e1, e2⟩
        exact ⟨x, List.mem_append_left _ hx, e1, e2⟩
      · rintro ⟨x, hx, e1, e2⟩
        rcases List.mem_append.mp hx with hx | hx
        · exact ⟨x, hx, e1, e2⟩
        · have : x = (a, []) := by simpa using hx
          subst this
          exact absurd e1.symm e
  · rw [List.map_append]
    show as ++ [a] = actsO (done.map (·.1) ++ [a])
    rw [actsO_snoc, ← g.ord]
    unfold ins
    rw [if_neg ha]
theorem RTup.past {H H' : Hp} {D : Addr} {o0 o : HO} {v : V} {a : List Nat} (hD : H D = some o0) (hn : ∀ ys, o0 ≠ .tup ys) (s : Same H H') (h : RTup RNat H v a) : RTup RNat (upd H' D o) v a := by
  obtain ⟨p, ys, e, hp, q⟩ := h
  refine ⟨p, ys, e, ?_, q⟩
  rw [upd_ne fun z => by rw [z, hD] at hp; exact hn _ (Option.some.inj hp)]
  exact s _ _ hp
section
variable {P : Program} {w : World} {K : PySem.W.Frag} {mg : Str → Option Value} {base : Heap}
theorem ok_group {f : Addr} {fd : FuncData} {k : Nat} (F : Fun K "grouped" "grouped" sGroup f fd) (mS : mg "sorted" = none) (mT : mg "tuple" = none) : FnOk P w K mg base CX0 (k + 1) f fd ["nodes", "moves"] spGroup := by
  refine F.ok scGroup (fun vs H Q E h => ?_) (fun cdv A outer s0 H vs Q E hr h => ?_)
  · obtain ⟨x, y, mv, ns, rfl, _⟩ := h
    rfl
  · obtain ⟨x, y, mv, ns, rfl, ⟨px, xs, rfl, hx, hxs⟩, ⟨py, ys, rfl, hy, hys⟩, hlt, h60, hbig, q⟩ := h
    have hu := hu_of hr
    have nd := scGroup.nd
    have exs := pnat hxs
    subst exs
    refine ⟨_, pss_cons (ps_set (i := 2) nd rfl (.inr rfl) pe_dnewT)
      (pss_cons (ps_for PassesOwn.never rfl (pi_tup (pv 0)) (pg_name (i := 3) nd rfl (.inl rfl))
        (pss_one (ps_for PassesOwn.never rfl (pi_list (pe_ix ix_list (pv 1) (pv 3) (fun _ _ => rfl))) (pg_tup rfl (pgs_cons (pg_name (i := 4) nd rfl (.inl rfl)) (pgs_cons (pg_name (i := 5) nd rfl (.inl rfl)) pgs_nil)))
          (pss_cons (ps_set (i := 6) nd rfl (.inl rfl) (pe_setdT hr.units (pv 2) (pv 4) pe_dnewK ⟨rfl, rfl, rfl, rfl⟩))
          (pss_one (ps_for PassesOwn.never rfl (pi_tup (pv 5)) (pg_name (i := 7) nd rfl (.inl rfl)) (pss_one (ps_dput hu (pv 6) (pv 7) pe_bl rfl))))))))
      (pss_one (ps_ret (pe_lock (pe_dcT (own := [("action", 4)]) (g := gName 4) (Nat.lt_of_le_of_lt (Nat.le_add_right _ 64) hr.units) (by rfl) nd (pi_keys (pv 2)) (blkOk_by (N := nGroup) (sc := defScope sGroup) (by decide +kernel)) (fun _ _ _ _ _ => pg_name (i := 4) nd rfl (Or.inl rfl)) (fun _ _ _ _ _ => pts_nil) (fun _ _ _ _ _ => pv 4)
        (fun _ _ _ _ _ => pe_callTy (cr_tup (K := K) rfl) (by rfl) mT (by decide +kernel) (pa_cons (pe_callB (call_sortedDI rfl) (by rfl) mS (by decide +kernel) (pa_cons (pe_dget hu (pv 2) (pv 4) (fun _ _ => rfl)) pa_nil)) pa_nil))))))), ?_⟩
    intro d hd
    have sub0 : ∀ (is : List Nat) (z : Act × List Nat), (∀ n ∈ is, n ∈ ns) → z ∈ mvAt mv is → z ∈ mvAt mv ns := by
      intro is z hi hz
      unfold mvAt at hz ⊢
      obtain ⟨l, hl, hz⟩ := List.mem_flatten.mp hz
      obtain ⟨n, hn, e⟩ := List.mem_map.mp hl
      exact List.mem_flatten.mpr ⟨l, List.mem_map.mpr ⟨n, hi n hn, e⟩, hz⟩
    refine ⟨.ref px, rfl, px, rfl, ⟨_, SqT.of (same_upd hd _ _ hx)⟩,
      for_it (walk_tup (xs := ns.map fun n : Nat => V.int (n : Int))) (fun i σ H' => (∃ as ad li, GI H d (mvAt mv (ns.take i)) H' as ad li) ∧ ∃ y3 y4 y5 y6 y7, σ = [some (.ref px), some (.ref py), some (.ref d), y3, y4, y5, y6, y7])
      ⟨⟨[], fun _ => d, fun _ => [], ⟨same_upd hd, by rw [upd_same]; rfl, by simp, by simp, by simp, by simp, fun a => by simp [mvAt], by simp, by simp, by simp [mvAt, actsO]⟩⟩, none, none, none, none, none, rfl⟩
      (fun i σ H' _ ⟨⟨_, _, _, g⟩, _⟩ => SqT.of (g.same _ _ hx)) ?_ ?_⟩
    · rintro i y σ H' H'' hi ⟨⟨as, ad, li, g⟩, y3, y4, y5, y6, y7, rfl⟩ ⟨rfl, hyi⟩
      obtain ⟨n, hn, en⟩ : ∃ n, ns[i]? = some n ∧ y = .int ((n : Nat) : Int) := by
        rw [List.getElem?_map] at hyi
        cases e : ns[i]? with
        | none => rw [e] at hyi; cases hyi
        | some n => rw [e] at hyi; exact ⟨n, rfl, (Option.some.inj hyi).symm⟩
      subst en
      have hnm : n ∈ ns := List.mem_of_getElem? hn
      obtain ⟨row, hrow⟩ : ∃ row, mv[n]? = some row := ⟨_, List.getElem?_eq_getElem (hlt n hnm)⟩
      obtain ⟨rv, hrv, p1, vs1, rfl, hp1, prow⟩ := pget' hys hrow
      have erow : mv.getD n [] = row := by simp [hrow]
      have emv : mvAt mv (ns.take (i + 1)) = mvAt mv (ns.take i) ++ row := by
        unfold mvAt
        rw [take_snoc hn, List.map_append, List.flatten_append]
        simp [hrow]
      have rowIn : ∀ z ∈ row, z ∈ mvAt mv ns := by
        intro z hz
        refine sub0 [n] z (by simpa using hnm) ?_
        unfold mvAt
        simpa [hrow] using hz
      refine ⟨.ref py, rfl, _, rfl, py, _, _, _, rfl, rfl, SqL.of (g.same _ _ hy), atI_nat hrv, p1, rfl, ⟨_, SqL.of (g.same _ _ hp1)⟩,
        for_it (walk_list (xs := vs1)) (fun j σ H2 => (∃ as ad li, GI H d (mvAt mv (ns.take i) ++ row.take j) H2 as ad li) ∧ ∃ y4 y5 y6 y7, σ = [some (.ref px), some (.ref py), some (.ref d), some (.int ((n : Nat) : Int)), y4, y5, y6, y7])
        ⟨⟨as, ad, li, by simpa using g⟩, _, _, _, _, rfl⟩ (fun j σ H2 _ ⟨⟨_, _, _, g⟩, _⟩ => SqL.of (g.same _ _ hp1)) ?_ ?_⟩
      · rintro j y σ H2 H3 hj ⟨⟨as, ad, li, g⟩, y4, y5, y6, y7, rfl⟩ ⟨rfl, hyj⟩
        obtain ⟨z, hz, p2, va, vb, rfl, hp2, ⟨pa, rfl, hpa⟩, ⟨pb, wb, rfl, hpb, hwb⟩⟩ := pget prow hyj
        have ewb := pnat hwb
        subst ewb
        refine ⟨p2, _, rfl, SqT.of (g.same _ _ hp2), rfl, _, _, rfl, _, _, rfl, rfl, ?_⟩
        have hpa3 : H3 pa = some (.tup ((actK z.1).map kV)) := g.same _ _ hpa
        -- groups.setdefault(action, {})
        refine ⟨.ref d, rfl, d, rfl, .inr ⟨_, .inl g.dict⟩, .ref pa, rfl, fun p np => ?_⟩
        have npd : p ≠ d := fun e => by rw [e, g.dict] at np; cases np
        have npa : pa ≠ p := fun e => by rw [← e, hpa3] at np; cases np
        have asl := g.len
        have dl : (mvAt mv (ns.take i) ++ row.take j).length ≤ 200000 := by
          have h1 : (mvAt mv (ns.take (i + 1))).length ≤ (mvAt mv ns).length := by
            unfold mvAt
            rw [List.length_flatten, List.length_flatten, List.map_map, List.map_map]
            have hs : ∀ (l : List Nat) (i : Nat), ((l.take i).map (List.length ∘ fun n => mv.getD n [])).sum ≤ (l.map (List.length ∘ fun n => mv.getD n [])).sum := by
              intro l
              induction l with
              | nil => intro i; simp
              | cons a l ih =>
                intro i
                cases i with
                | zero => simp
                | succ i =>
                  simp only [List.take_succ_cons, List.map_cons, List.sum_cons]
                  have := ih i
                  omega
            exact hs ns (i + 1)
          rw [emv] at h1
          rw [List.length_append] at h1 ⊢
          have : (row.take j).length ≤ row.length := by simp; omega
          omega
        refine ⟨as.map fun a => (actK a, V.ref (ad a)), actK z.1, pa, by rw [upd_ne npd.symm]; exact g.dict, rfl, by rw [upd_ne npa]; exact hpa3, by rw [List.length_map, sizeLine_eq]; omega, fun v hv => ?_, fun hv => ?_⟩
        all_goals
          -- for other in goals
          rw [valV_acts] at hv
        · by_cases ha : z.1 ∈ as
          · rw [if_pos ha] at hv
            cases hv
            have g1 := g.again ha (same_upd (o := .dK []) np)
            refine ⟨.ref pb, rfl, pb, rfl, ⟨_, SqT.of (g1.same _ _ hpb)⟩,
              for_it (walk_tup (xs := z.2.map fun n : Nat => V.int (n : Int))) (fun l σ H4 => (∃ li, GI H d (mvAt mv (ns.take i) ++ row.take j ++ [(z.1, z.2.take l)]) H4 as ad li) ∧ ∃ y7, σ = [some (.ref px), some (.ref py), some (.ref d), some (.int ((n : Nat) : Int)), some (.ref pa), some (.ref pb), some (.ref (ad z.1)), y7])
              ⟨⟨li, by simpa using g1⟩, _, rfl⟩ (fun l σ H4 _ ⟨⟨_, g⟩, _⟩ => SqT.of (g.same _ _ hpb)) ?_ ?_⟩
            · rintro l y σ H4 H5 hl ⟨⟨li, g2⟩, y7, rfl⟩ ⟨rfl, hyl⟩
              obtain ⟨m, hm, rfl⟩ : ∃ m, z.2[l]? = some m ∧ y = .int ((m : Nat) : Int) := by
                rw [List.getElem?_map] at hyl
                cases e : z.2[l]? with
                | none => rw [e] at hyl; cases hyl
                | some n => rw [e] at hyl; exact ⟨n, rfl, (Option.some.inj hyl).symm⟩
              obtain ⟨kb, k1, k2⟩ := g2.sub z.1 ha
              have klen : kb.length ≤ 60 := by
                have e1 : kb.length = (li z.1).length := by have := congrArg List.length k2; simpa using this
                rw [e1]
                refine lt_len (g2.lnd _ ha) fun x hx => ?_
                obtain ⟨u, hu1, hu2, hu3⟩ := (g2.lmem _ ha x).mp hx
                rcases List.mem_append.mp hu1 with hu1 | hu1
                · rcases List.mem_append.mp hu1 with hu1 | hu1
                  · exact h60 u (sub0 _ u (fun n hn => List.mem_of_mem_take hn) hu1) x hu3
                  · exact h60 u (rowIn u (List.mem_of_mem_take hu1)) x hu3
                · have : u = (z.1, z.2.take l) := by simpa using hu1
                  subst this
                  exact h60 z (rowIn z (List.mem_of_getElem? hz)) x (List.mem_of_mem_take hu3)
              refine ⟨_, rfl, _, rfl, _, _, rfl, DPut.k (k := keyN m) k1 (by rw [sizeLine_eq]; omega), ⟨fun b => if b = z.1 then ins (li z.1) m else li b, ?_⟩, _, rfl⟩
              rw [take_snoc hm]
              exact g2.goal ha k1 k2 hd (.bl true)
            · rintro σ H4 ⟨⟨li, g2⟩, y7, rfl⟩
              refine ⟨⟨as, ad, li, ?_⟩, _, _, _, _, rfl⟩
              have et : z.2.take (z.2.map fun n : Nat => V.int (n : Int)).length = z.2 := by rw [List.length_map]; exact List.take_length
              rw [et] at g2
              rw [take_snoc hz, ← List.append_assoc]
              exact g2
          · rw [if_neg ha] at hv
            cases hv
        · by_cases ha : z.1 ∈ as
          · rw [if_pos ha] at hv
            cases hv
          · have hv' : valV (as.map fun a => (actK a, V.ref (ad a))) (actK z.1) = none := by rw [valV_acts]; exact if_neg ha
            rw [putK_new _ hv']
            have g1 := g.fresh ha hd np g.dict
            have ha1 : z.1 ∈ as ++ [z.1] := by simp
            refine ⟨.ref pb, rfl, pb, rfl, ⟨_, SqT.of (g1.same _ _ hpb)⟩,
              for_it (walk_tup (xs := z.2.map fun n : Nat => V.int (n : Int))) (fun l σ H4 => (∃ li, GI H d (mvAt mv (ns.take i) ++ row.take j ++ [(z.1, z.2.take l)]) H4 (as ++ [z.1]) (fun b => if b = z.1 then p else ad b) li) ∧ ∃ y7, σ = [some (.ref px), some (.ref py), some (.ref d), some (.int ((n : Nat) : Int)), some (.ref pa), some (.ref pb), some (.ref p), y7])
              ⟨⟨_, by simpa using g1⟩, _, rfl⟩ (fun l σ H4 _ ⟨⟨_, g⟩, _⟩ => SqT.of (g.same _ _ hpb)) ?_ ?_⟩
            · rintro l y σ H4 H5 hl ⟨⟨li, g2⟩, y7, rfl⟩ ⟨rfl, hyl⟩
              obtain ⟨m, hm, rfl⟩ : ∃ m, z.2[l]? = some m ∧ y = .int ((m : Nat) : Int) := by
                rw [List.getElem?_map] at hyl
                cases e : z.2[l]? with
                | none => rw [e] at hyl; cases hyl
                | some n => rw [e] at hyl; exact ⟨n, rfl, (Option.some.inj hyl).symm⟩
              obtain ⟨kb, k1, k2⟩ := g2.sub z.1 ha1
              have klen : kb.length ≤ 60 := by
                have e1 : kb.length = (li z.1).length := by have := congrArg List.length k2; simpa using this
                rw [e1]
                refine lt_len (g2.lnd _ ha1) fun x hx => ?_
                obtain ⟨u, hu1, hu2, hu3⟩ := (g2.lmem _ ha1 x).mp hx
                rcases List.mem_append.mp hu1 with hu1 | hu1
                · rcases List.mem_append.mp hu1 with hu1 | hu1
                  · exact h60 u (sub0 _ u (fun n hn => List.mem_of_mem_take hn) hu1) x hu3
                  · exact h60 u (rowIn u (List.mem_of_mem_take hu1)) x hu3
                · have : u = (z.1, z.2.take l) := by simpa using hu1
                  subst this
                  exact h60 z (rowIn z (List.mem_of_getElem? hz)) x (List.mem_of_mem_take hu3)
              have g3 := g2.goal (n := m) ha1 k1 k2 hd (.bl true)
              rw [if_pos rfl] at k1
              refine ⟨_, rfl, _, rfl, _, _, rfl, DPut.k (k := keyN m) k1 (by rw [sizeLine_eq]; omega), ⟨fun b => if b = z.1 then ins (li z.1) m else li b, ?_⟩, _, rfl⟩
              rw [take_snoc hm]
              rw [if_pos rfl] at g3
              exact g3
            · rintro σ H4 ⟨⟨li, g2⟩, y7, rfl⟩
              refine ⟨⟨as ++ [z.1], fun b => if b = z.1 then p else ad b, li, ?_⟩, _, _, _, _, rfl⟩
              have et : z.2.take (z.2.map fun n : Nat => V.int (n : Int)).length = z.2 := by rw [List.length_map]; exact List.take_length
              rw [et] at g2
              rw [take_snoc hz, ← List.append_assoc]
              exact g2
      · rintro σ H2 ⟨⟨as, ad, li, g⟩, y4, y5, y6, y7, rfl⟩
        refine ⟨⟨as, ad, li, ?_⟩, _, _, _, _, _, rfl⟩
        have et : row.take vs1.length = row := by rw [plen prow]; exact List.take_length
        rw [et, ← emv] at g
        exact g
    · -- the result
      rintro σ H' ⟨⟨as, ad, li, g⟩, y3, y4, y5, y6, y7, rfl⟩
      have et : ns.take (ns.map fun n : Nat => V.int (n : Int)).length = ns := by rw [List.length_map]; exact List.take_length
      rw [et] at g
      refine ⟨d, _, g.dict, True.intro, fun od => ?_⟩
      have asl := g.len
      have sl : Same H (upd H' d (.frz od (.dT (as.map fun a => (actK a, V.ref (ad a)))))) := same_re g.same hd
      refine ⟨.ref d, rfl, d, od, rfl, .inr ⟨_, upd_same, fun D nD => ⟨_, _, _, walk_keysT, fun i H2 => Same (upd H' d (.frz od (.dT (as.map fun a => (actK a, V.ref (ad a)))))) H2 ∧
          ∃ kvs gs, H2 D = some (.dT kvs) ∧ Paired (fun (kv : List L2.Key × V) (g : Act × List Nat) => kv.1 = actK g.1 ∧ RTup RNat H2 kv.2 g.2) kvs gs ∧ gs.map (·.1) = as.take i ∧ ∀ g ∈ gs, Asc g.2 ∧ ∀ n, n ∈ g.2 ↔ n ∈ li g.1, ?_, ?_, ?_, ?_⟩⟩⟩
      · exact ⟨same_upd nD, [], [], upd_same, .nil, rfl, by simp⟩
      · intro i H2 _ ⟨sm, _⟩
        exact sm _ _ upd_same
      · rintro i x H2 H3 hi ⟨sm, kvs, gs, hD, hp, eg, hg⟩ ⟨rfl, kk, v, qa, hk, rfl, hqa⟩
        refine ⟨rfl, iteT (B := True) ?_⟩
        obtain ⟨a, ha, e1, e2⟩ : ∃ a, as[i]? = some a ∧ kk = actK a ∧ v = .ref (ad a) := by
          rw [List.getElem?_map] at hk
          cases e : as[i]? with
          | none => rw [e] at hk; cases hk
          | some a => rw [e] at hk; cases hk; exact ⟨a, rfl, rfl, rfl⟩
        subst e1 e2
        have ham : a ∈ as := List.mem_of_getElem? ha
        obtain ⟨kb, k1, k2⟩ := g.sub a ham
        have frz := sm _ _ upd_same
        have nda : ad a ≠ d := fun e => by rw [e, g.dict] at k1; cases k1
        have k3 : H3 (ad a) = some (.dK kb) := sm _ _ (by rw [upd_ne nda]; exact k1)
        have klen : kb.length ≤ 60 := by
          have e1 : kb.length = (li a).length := by have := congrArg List.length k2; simpa using this
          rw [e1]
          refine lt_len (g.lnd _ ham) fun x hx => ?_
          obtain ⟨u, hu1, hu2, hu3⟩ := (g.lmem _ ham x).mp hx
          exact h60 u hu1 x hu3
        refine ⟨.ref qa, rfl, .ref d, rfl, .ref qa, rfl, d, .ref (ad a), rfl, .inr ⟨_, actK a, qa, .inr ⟨od, frz⟩, rfl, hqa, ?_⟩, ?_⟩
        · rw [valV_acts, if_pos ham]
        refine ⟨ad a, kb, (li a).map fun n : Nat => (n : Int), rfl, .inl k3, by rw [k2, List.map_map]; rfl, by rw [List.length_map, ← (show kb.length = (li a).length by have := congrArg List.length k2; simpa using this)]; omega, fun zs l2 pm asc nl2 => ?_⟩
        obtain ⟨ms, en⟩ := nats_of (l := zs) fun z hz => by
          obtain ⟨n, _, e⟩ := List.mem_map.mp (pm.mem_iff.mp hz)
          omega
        have zn : zs.Nodup := pm.nodup_iff.mpr (List.pairwise_map.mpr ((g.lnd a ham).imp fun {a b} h e => h (by omega)))
        refine ⟨l2, _, rfl, .inl ⟨SqL.of upd_same, fun l3 nl3 => ?_⟩⟩
        have nD2 : D ≠ l2 := ne_of_none hD nl2
        have nl3' : H3 l3 = none := by
          by_cases e : l3 = l2
          · subst e; rw [upd_same] at nl3; cases nl3
          · rw [upd_ne e] at nl3; exact nl3
        have nD3 : D ≠ l3 := ne_of_none hD nl3'
        have nq2 : qa ≠ l2 := ne_of_none hqa nl2
        have nq3 : qa ≠ l3 := ne_of_none hqa nl3'
        have s3 : Same H3 (upd (upd H3 l2 (.lst (zs.map V.int))) l3 (.tup (zs.map V.int))) := (same_upd nl2).trans (same_upd nl3)
        have kvl : kvs.length ≤ as.length := by
          have h1 := plen hp
          have h2 := congrArg List.length eg
          simp only [List.length_map, List.length_take] at h2
          omega
        refine ⟨kvs, actK a, qa, rfl, by rw [upd_ne nq3, upd_ne nq2]; exact hqa, by rw [upd_ne nD3, upd_ne nD2]; exact hD, by rw [sizeLine_eq]; omega, same_re (sm.trans s3) nD, ?_⟩
        have hnew : valV kvs (actK a) = none := by
          cases h : valV kvs (actK a) with
          | none => rfl
          | some v0 =>
            exfalso
            have h1 : (kvs.any fun kv => decide (kv.1 = actK a)) = true := by rw [valV_any, h]; rfl
            obtain ⟨kv, hkv, e⟩ := List.any_eq_true.mp h1
            obtain ⟨g0, hg0, e1, _⟩ := pmem hp hkv
            have e2 : g0.1 = a := actK_inj (e1.symm.trans (of_decide_eq_true e))
            have h3 : a ∈ as.take i := by rw [← eg]; exact List.mem_map.mpr ⟨g0, hg0, e2⟩
            obtain ⟨j, hj, ej⟩ := List.getElem_of_mem h3
            rw [List.length_take] at hj
            have h4 : as[j]? = some a := by
              rw [List.getElem_take] at ej
              rw [List.getElem?_eq_getElem (by omega), ej]
            have := nd_ix g.nd h4 ha
            omega
        refine ⟨kvs ++ [(actK a, .ref l3)], gs ++ [(a, ms)], by rw [upd_same, putK_new _ hnew], psnoc ?_ ⟨rfl, l3, zs.map V.int, rfl, ?_, ?_⟩, ?_, fun g0 hg0 => ?_⟩
        · refine Paired.mapP hp ?_
          intro kv g0 h
          exact ⟨h.1, RTup.past hD (fun _ => nofun) s3 h.2⟩
        · have n3 : l3 ≠ D := fun e => nD3 e.symm
          rw [upd_ne n3, upd_same]
        · have e9 : zs.map V.int = ms.map fun n : Nat => V.int (n : Int) := by
            rw [en, List.map_map]
            rfl
          rw [e9]
          exact natp
        · rw [List.map_append, eg, take_snoc ha]
          rfl
        · rcases List.mem_append.mp hg0 with hg0 | hg0
          · exact hg g0 hg0
          · have : g0 = (a, ms) := by simpa using hg0
            subst this
            refine ⟨asc_of asc zn en, fun n => ?_⟩
            have h1 : ∀ l : List Nat, ((n : Nat) : Int) ∈ l.map (fun n : Nat => (n : Int)) ↔ n ∈ l := fun l => by
              rw [List.mem_map]
              exact ⟨fun ⟨m, h, e⟩ => by rw [show n = m by omega]; exact h, fun h => ⟨n, h, rfl⟩⟩
            have h2 := pm.mem_iff (a := (n : Int))
            rw [en, h1] at h2
            exact h2.trans (h1 (li a))
      · rintro H2 ⟨sm, kvs, gs, hD, hp, eg, hg⟩
        have frz := sm _ _ upd_same
        refine ⟨frz, ?_⟩
        have el : gs.map (·.1) = as := by rw [eg, List.length_map]; exact List.take_length
        have nDd : D ≠ d := fun e => by rw [← e, hD] at frz; cases frz
        have hD0 : H D = none := sl.free nD
        refine q _ D gs (same_re (sl.trans sm) hd) hD0 ⟨D, kvs, rfl, by rw [upd_ne nDd]; exact hD, Paired.mapP hp ?_⟩ (el ▸ g.nd) (el.trans g.ord) (fun a => by rw [el]; exact g.mem a) fun g0 hg0 => ⟨(hg g0 hg0).1, fun n => ?_⟩
        · intro kv g0 h
          exact ⟨h.1, RTup.past frz (fun _ => nofun) (fun _ _ z => z) h.2⟩
        rw [(hg g0 hg0).2 n]
        exact g.lmem g0.1 (by rw [← el]; exact List.mem_map.mpr ⟨g0, hg0, rfl⟩) n
end
end PL
namespace PL
open PySem PySem.Spec PyProof.Rows L2
/-! the tuples stand -/
def TSm (H H' : Hp) : Prop := ∀ b xs, H b = some (.tup xs) → H' b = some (.tup xs)
theorem TSm.rfl {H : Hp} : TSm H H := fun _ _ h => h
theorem TSm.trans {H H' H'' : Hp} (s : TSm H H') (t : TSm H' H'') : TSm H H'' := fun _ _ h => t _ _ (s _ _ h)
theorem Same.ts {H H' : Hp} (s : Same H H') : TSm H H' := fun _ _ h => s _ _ h
theorem TSm.new {H : Hp} {p : Addr} {o : HO} (h : H p = none) : TSm H (upd H p o) := Same.ts (same_upd h)
theorem TSm.re {H : Hp} {p : Addr} {o0 o : HO} (h : H p = some o0) (hn : ∀ ys, o0 ≠ .tup ys) : TSm H (upd H p o) := fun b xs e => by
  rw [upd_ne fun z => by rw [z, h] at e; exact hn _ (Option.some.inj e)]
  exact e
def MonT {α : Type} (R : Rl α) : Prop := ∀ (H H' : Hp) (v : V) (a : α), TSm H H' → R H v a → R H' v a
section
variable {α β : Type} {R : Rl α} {S : Rl β}
theorem RAct.tm : MonT RAct := fun _ _ _ _ s ⟨p, e, h⟩ => ⟨p, e, s _ _ h⟩
theorem RNat.tm : MonT RNat := fun _ _ _ _ _ h => h
theorem RBl.tm : MonT RBl := fun _ _ _ _ _ h => h
theorem RStr.tm : MonT RStr := fun _ _ _ _ _ h => h
theorem RTup.tm (r : MonT R) : MonT (RTup R) := fun _ _ _ _ s ⟨p, vs, e, h, q⟩ => ⟨p, vs, e, s _ _ h, pmono q fun _ _ z => r _ _ _ _ s z⟩
theorem RPr.tm (r : MonT R) (t : MonT S) : MonT (RPr R S) := fun _ _ _ _ s ⟨p, a, b, e, h, q1, q2⟩ => ⟨p, a, b, e, s _ _ h, r _ _ _ _ s q1, t _ _ _ _ s q2⟩
theorem RRow.tm : MonT RRow := RTup.tm (RPr.tm RAct.tm RNat.tm)
theorem RTbl.tm : MonT RTbl := fun _ _ _ _ s ⟨p, vr, ve, e, h, q1, q2⟩ => ⟨p, vr, ve, e, s _ _ h, RTup.tm RRow.tm _ _ _ _ s q1, RTup.tm RBl.tm _ _ _ _ s q2⟩
theorem MonT.ps (r : MonT R) {H H' : Hp} (s : TSm H H') {vs : List V} {l : List α} (h : Paired (R H) vs l) : Paired (R H') vs l := pmono h fun _ _ z => r _ _ _ _ s z
end
/-! the place of a member -/
section
variable {α : Type} [DecidableEq α]
def ixO : List α → α → Option Nat
  | [], _ => none
  | x :: xs, l => if x = l then some 0 else (ixO xs l).map (· + 1)
theorem ixO_some : ∀ {xs : List α} {l : α} {i : Nat}, ixO xs l = some i → xs[i]? = some l
  | [], _, _, h => by cases h
  | x :: xs, l, i, h => by
    unfold ixO at h
    split at h
    · rename_i e
      cases h
      simp [e]
    · cases e : ixO xs l with
      | none => rw [e] at h; cases h
      | some j =>
        rw [e] at h
        cases h
        simpa using ixO_some e
theorem ixO_none : ∀ {xs : List α} {l : α}, ixO xs l = none ↔ l ∉ xs
  | [], _ => by simp [ixO]
  | x :: xs, l => by
    unfold ixO
    split
    · rename_i e
      simp [e]
    · rename_i e
      rw [Option.map_eq_none_iff, ixO_none]
      simp [Ne.symm e]
theorem ixO_new : ∀ {xs : List α} {l : α}, l ∉ xs → ixO (xs ++ [l]) l = some xs.length
  | [], l, _ => by simp [ixO]
  | x :: xs, l, h => by
    have h1 : x ≠ l := fun e => h (e ▸ List.mem_cons_self)
    rw [List.cons_append, ixO, if_neg h1, ixO_new fun z => h (List.mem_cons_of_mem _ z)]
    rfl
theorem ixO_app : ∀ {xs ys : List α} {l : α} {i : Nat}, ixO xs l = some i → ixO (xs ++ ys) l = some i
  | [], _, _, _, h => by cases h
  | x :: xs, ys, l, i, h => by
    rw [List.cons_append]
    unfold ixO at h ⊢
    split
    · rename_i e
      rw [if_pos e] at h
      exact h
    · rename_i e
      rw [if_neg e] at h
      cases h2 : ixO xs l with
      | none => rw [h2] at h; cases h
      | some j =>
        rw [h2] at h
        rw [ixO_app h2]
        exact h
/-- the numbers of the members, by what keys they have -/
def numK {κ : Type} (f : α → κ) : List α → Nat → List (κ × V)
  | [], _ => []
  | x :: xs, j => (f x, V.int (j : Int)) :: numK f xs (j + 1)
theorem numK_snoc {κ : Type} {f : α → κ} {x : α} : ∀ {xs : List α} {j : Nat}, numK f (xs ++ [x]) j = numK f xs j ++ [(f x, V.int ((j + xs.length : Nat) : Int))]
  | [], j => rfl
  | y :: xs, j => by
    rw [List.cons_append, numK, numK_snoc (xs := xs) (j := j + 1), numK, List.cons_append, List.length_cons, show j + 1 + xs.length = j + (xs.length + 1) by omega]
theorem numK_len {κ : Type} {f : α → κ} : ∀ {xs : List α} {j : Nat}, (numK f xs j).length = xs.length
  | [], j => rfl
  | y :: xs, j => by rw [numK, List.length_cons, List.length_cons, numK_len]
theorem numK_val {κ : Type} [DecidableEq κ] {f : α → κ} (hf : ∀ a b, f a = f b → a = b) {l : α} : ∀ {xs : List α} {j : Nat}, valV (numK f xs j) (f l) = (ixO xs l).map fun i : Nat => V.int ((j + i : Nat) : Int)
  | [], j => rfl
  | y :: xs, j => by
    unfold numK ixO
    by_cases e : y = l
    · subst e
      rw [valV_pos (by rfl), if_pos (by rfl)]
      rfl
    · rw [valV_neg (fun z => e (hf _ _ z)), if_neg e, numK_val hf, Option.map_map]
      congr 1
      funext i
      show V.int _ = V.int _
      congr 1
      show ((j + 1 + i : Nat) : Int) = ((j + (i + 1) : Nat) : Int)
      congr 1
      omega
end
def keyL (l : List Nat) : List L2.Key := l.map keyN
theorem keyL_inj : ∀ a b, keyL a = keyL b → a = b := fun a b e => by
  unfold keyL at e
  induction a generalizing b with
  | nil => cases b with
    | nil => rfl
    | cons y b => cases e
  | cons x a ih => cases b with
    | nil => cases e
    | cons y b =>
      rw [List.map_cons, List.map_cons] at e
      injection e with e1 e2
      rw [keyN_inj _ _ e1, ih _ e2]
theorem keyL_V (l : List Nat) : (keyL l).map kV = l.map fun n : Nat => V.int (n : Int) := by
  unfold keyL
  rw [List.map_map]
  rfl
theorem RTup.key {H : Hp} {p : Addr} {l : List Nat} (h : RTup RNat H (.ref p) l) : H p = some (.tup ((keyL l).map kV)) := by
  obtain ⟨p', ys, e, hp, q⟩ := h
  cases e
  rw [keyL_V, ← pnat q]
  exact hp
/-! a list of ints against an empty list -/
section
variable {X : Cx}
def rNeL (K : PySem.W.Frag) : R2 := fun x y H Q => ∃ (a b : Addr) (ns : List Int), x = .ref a ∧ y = .ref b ∧ SqL K H a (ns.map V.int) ∧ SqL K H b [] ∧ Q (.bl (!ns.isEmpty)) H
theorem dp_ints {K : PySem.W.Frag} {H : Hp} : ∀ ns : List Int, DpAll K H (ns.map V.int) (ns.map PyData.int)
  | [] => .nil
  | n :: ns => .cons (.int n) (dp_ints ns)
theorem op_neL (hu : X.A.units + 64 < cLine) : OpR X (compareOp .NotEq) (rNeL X.K) := by
  intro pins s σ H x y v u Q I rx ry ⟨a, b, ns, ex, ey, ha, hb, q⟩
  subst ex ey
  refine op_neD hu pins s σ H _ _ v u Q I rx ry ⟨.list (ns.map PyData.int), .list [], .lst ha (dp_ints ns), .lst hb .nil, PySem.W.ke_shaped_ints ns, PySem.W.ke_shaped_ints [], ?_⟩
  have : PyData.eqv (.list (ns.map PyData.int)) (.list []) = ns.isEmpty := by
    cases ns with
    | nil => simp [PyData.eqv, PyData.eqvAll]
    | cons n ns => simp [PyData.eqv, PyData.eqvAll]
  rw [this]
  exact q
/-! the same, K given -/
section
variable {K : PySem.W.Frag}
theorem ix_seqK (h : X.K = K) : IxR X (rIx K) := by
  subst h
  exact ix_seq
theorem ix_tupK (h : X.K = K) : IxR X (rIxT K) := by
  subst h
  exact ix_tup
theorem ix_listK (h : X.K = K) : IxR X (rIxL K) := by
  subst h
  exact ix_list
theorem op_neLK (h : X.K = K) (hu : X.A.units + 64 < cLine) : OpR X (compareOp .NotEq) (rNeL K) := by
  subst h
  exact op_neL hu
theorem pi_tupK {tg e : Expr} {td : TE} (h : X.K = K) (he : PE X e td) : PI X tg e (iTup K td) := by
  subst h
  exact pi_tup he
theorem pi_listK {tg e : Expr} {td : TE} (h : X.K = K) (he : PE X e td) : PI X tg e (iList K td) := by
  subst h
  exact pi_list he
end
end
/-- a statement with a stated end: what comes behind is shown once -/
def tCut (t : TS) : TS := fun D σ H => ∃ Mid : L2.St → Hp → Prop, t { D with nx := Mid } σ H ∧ ∀ σ' H', Mid σ' H' → D.nx σ' H'
theorem ps_cut {X : Cx} {st : Stmt} {t : TS} (h : PS X st t) : PS X st (tCut t) := by
  refine ⟨fun pins s σ H D I hq => ?_⟩
  obtain ⟨Mid, h1, h2⟩ := hq
  refine thn (h.run pins s σ H { D with nx := Mid } I h1) fun f s1 q => ?_
  cases f with
  | next =>
    obtain ⟨σ', H', I', q⟩ := q
    exact ⟨σ', H', I', h2 σ' H' q⟩
  | ret v => exact q
  | brk => exact q
  | cont => exact q
theorem pmapeq {α β γ : Type} {F : α → β → Prop} {f : α → γ} {g : β → γ} : ∀ {l : List α} {m : List β}, Paired F l m → (∀ x y, F x y → f x = g y) → l.map f = m.map g
  | _, _, .nil, _ => rfl
  | _, _, .cons r t, h => by rw [List.map_cons, List.map_cons, h _ _ r, pmapeq t h]
/-- what stands under a key -/
theorem kv_val {κ β : Type} [DecidableEq κ] {f : β → κ} {G : V → β → Prop} : ∀ {kvs : List (κ × V)} {gs : List β}, Paired (fun kv g => kv.1 = f g ∧ G kv.2 g) kvs gs → (gs.map f).Nodup → ∀ g ∈ gs, ∃ v, valV kvs (f g) = some v ∧ G v g
  | _, _, .nil, _, g, h => by cases h
  | kv :: kvs, g0 :: gs, .cons r t, nd, g, h => by
    obtain ⟨k, v⟩ := kv
    obtain ⟨e, r⟩ := r
    have e : k = f g0 := e
    subst e
    have n2 := List.nodup_cons.mp (show (f g0 :: gs.map f).Nodup from nd)
    rcases List.mem_cons.mp h with e | h
    · subst e
      exact ⟨v, valV_pos rfl, r⟩
    · obtain ⟨v', h1, h2⟩ := kv_val t n2.2 g h
      refine ⟨v', ?_, h2⟩
      rw [valV_neg fun e : f g0 = f g => n2.1 (by rw [e]; exact List.mem_map.mpr ⟨g, h, rfl⟩)]
      exact h1
theorem map_nodup {α κ : Type} {f : α → κ} (hf : ∀ a b, f a = f b → a = b) {l : List α} (h : l.Nodup) : (l.map f).Nodup := List.pairwise_map.mpr (h.imp fun {_ _} n e => n (hf _ _ e))
theorem filter_snoc {α : Type} (f : α → Bool) (l : List α) (x : α) : (l ++ [x]).filter f = l.filter f ++ (if f x = true then [x] else []) := by
  rw [List.filter_append]
  congr 1
  by_cases h : f x = true
  · rw [List.filter_cons_of_pos h, if_pos h]
    rfl
  · rw [List.filter_cons_of_neg h, if_neg h]
    rfl
end PL
namespace PL
open PySem PySem.Spec PyProof.Rows L2
/-- the goals of an action out of some nodes -/
def Goal (mv : Mv) (l : List Nat) (a : Act) (n : Nat) : Prop := ∃ x ∈ mvAt mv l, x.1 = a ∧ n ∈ x.2
def Has (mv : Mv) (l : List Nat) (a : Act) : Prop := ∃ x ∈ mvAt mv l, x.1 = a
structure RowOk (mv : Mv) (os : List (List Nat)) (l : List Nat) (row : List (Act × Nat)) : Prop where
  nd : (row.map (·.1)).Nodup
  has : ∀ a, a ∈ row.map (·.1) ↔ Has mv l a
  go : ∀ p ∈ row, ∃ m, os[p.2]? = some m ∧ Asc m ∧ ∀ n, n ∈ m ↔ Goal mv l p.1 n
theorem pre_get {α : Type} {l m : List α} (h : l <+: m) {i : Nat} {x : α} (e : l[i]? = some x) : m[i]? = some x := by
  obtain ⟨t, rfl⟩ := h
  rw [List.getElem?_append_left (List.getElem?_eq_some_iff.mp e).1]
  exact e
theorem RowOk.pre {mv : Mv} {os os' : List (List Nat)} {l : List Nat} {row : List (Act × Nat)} (r : RowOk mv os l row) (h : os <+: os') : RowOk mv os' l row :=
  ⟨r.nd, r.has, fun p hp => let ⟨m, h1, h2⟩ := r.go p hp; ⟨m, pre_get h h1, h2⟩⟩
/-- one action of a state: its goal known, or new -/
def Stp1 (mv : Mv) (l : List Nat) (a : Act) (s t : List (List Nat) × List (Act × Nat)) : Prop := ∃ m gi, Asc m ∧ (∀ n, n ∈ m ↔ Goal mv l a n) ∧ ((ixO s.1 m = some gi ∧ t.1 = s.1) ∨ (ixO s.1 m = none ∧ t.1 = s.1 ++ [m] ∧ gi = s.1.length)) ∧ t.2 = s.2 ++ [(a, gi)]
theorem Stp1.fn {mv : Mv} {l : List Nat} {a : Act} {s t t' : List (List Nat) × List (Act × Nat)} (h : Stp1 mv l a s t) (h' : Stp1 mv l a s t') : t = t' := by
  obtain ⟨m, gi, a1, a2, a3, a4⟩ := h
  obtain ⟨m', gi', b1, b2, b3, b4⟩ := h'
  have em : m = m' := asc_ext a1 b1 fun n => (a2 n).trans (b2 n).symm
  subst em
  rcases a3 with ⟨c1, c2⟩ | ⟨c1, c2, c3⟩ <;> rcases b3 with ⟨d1, d2⟩ | ⟨d1, d2, d3⟩
  · rw [c1] at d1
    have := Option.some.inj d1
    subst this
    exact Prod.ext (c2.trans d2.symm) (a4.trans b4.symm)
  · rw [c1] at d1; cases d1
  · rw [c1] at d1; cases d1
  · rw [c3] at a4
    rw [d3] at b4
    exact Prod.ext (c2.trans d2.symm) (a4.trans b4.symm)
def Stp (mv : Mv) (l : List Nat) : List Act → List (List Nat) × List (Act × Nat) → List (List Nat) × List (Act × Nat) → Prop
  | [], s, t => t = s
  | a :: as, s, t => ∃ s1, Stp1 mv l a s s1 ∧ Stp mv l as s1 t
theorem Stp.fn {mv : Mv} {l : List Nat} : ∀ {as : List Act} {s t t' : List (List Nat) × List (Act × Nat)}, Stp mv l as s t → Stp mv l as s t' → t = t'
  | [], s, t, t', h, h' => by
    have h : t = s := h
    have h' : t' = s := h'
    rw [h, h']
  | a :: as, s, t, t', h, h' => by
    obtain ⟨s1, h1, h2⟩ := h
    obtain ⟨s2, h3, h4⟩ := h'
    have := h1.fn h3
    subst this
    exact h2.fn h4
theorem Stp.snoc {mv : Mv} {l : List Nat} {a : Act} : ∀ {as : List Act} {s t u : List (List Nat) × List (Act × Nat)}, Stp mv l as s t → Stp1 mv l a t u → Stp mv l (as ++ [a]) s u
  | [], s, t, u, h, h' => by
    have h : t = s := h
    subst h
    exact ⟨u, h', rfl⟩
  | b :: as, s, t, u, h, h' => by
    obtain ⟨s1, h1, h2⟩ := h
    exact ⟨s1, h1, h2.snoc h'⟩
def Rn (mv : Mv) (st : List Nat) : Nat → List (List Nat) × List (List (Act × Nat)) → Prop
  | 0, s => s = ([st], [])
  | i + 1, s => ∃ s0 l rr, Rn mv st i s0 ∧ s0.1[i]? = some l ∧ Stp mv l (sA (actsO ((mvAt mv l).map (·.1)))) (s0.1, []) (s.1, rr) ∧ s.2 = s0.2 ++ [rr]
theorem Rn.fn {mv : Mv} {st : List Nat} : ∀ {i : Nat} {s t : List (List Nat) × List (List (Act × Nat))}, Rn mv st i s → Rn mv st i t → s = t
  | 0, s, t, h, h' => by
    have h : s = _ := h
    have h' : t = _ := h'
    rw [h, h']
  | i + 1, s, t, h, h' => by
    obtain ⟨s0, l, rr, a1, a2, a3, a4⟩ := h
    obtain ⟨t0, l', rr', b1, b2, b3, b4⟩ := h'
    have := a1.fn b1
    subst this
    rw [a2] at b2
    cases b2
    have := a3.fn b3
    have e1 := congrArg Prod.fst this
    have e2 : rr = rr' := congrArg Prod.snd this
    subst e2
    exact Prod.ext e1 (a4.trans b4.symm)
theorem Rn.at {mv : Mv} {st : List Nat} : ∀ {n : Nat} {s : List (List Nat) × List (List (Act × Nat))}, Rn mv st n s → ∀ {i : Nat}, i < n → ∃ t l, Rn mv st i t ∧ t.1[i]? = some l
  | 0, _, _, i, hi => absurd hi (Nat.not_lt_zero i)
  | n + 1, s, h, i, hi => by
    obtain ⟨s0, l, rr, a1, a2, _⟩ := h
    by_cases e : i = n
    · subst e
      exact ⟨s0, l, a1, a2⟩
    · exact a1.at (by omega)
/-- what is put in, what comes out -/
structure SubOk (st : List Nat) (mv : Mv) (es : List Bool) (T : Tbl) (os : List (List Nat)) : Prop where
  nd : os.Nodup
  first : os[0]? = some st
  len : T.rows.length = os.length
  ok : T.OK
  ends : ∀ (i : Nat) l, os[i]? = some l → T.ends[i]? = some (l.any fun n => es.getD n false)
  row : ∀ (i : Nat) l, os[i]? = some l → ∃ r, T.rows[i]? = some r ∧ RowOk mv os l r
  run : Rn mv st os.length (os, T.rows)
  marks : T.ends = os.map fun l => l.any fun n => es.getD n false
theorem SubOk.uniq {st : List Nat} {mv : Mv} {es : List Bool} {T T' : Tbl} {os os' : List (List Nat)} (h : SubOk st mv es T os) (h' : SubOk st mv es T' os') : T = T' := by
  have key : ∀ {U U' : Tbl} {ps ps' : List (List Nat)}, Rn mv st ps.length (ps, U.rows) → Rn mv st ps'.length (ps', U'.rows) → ¬ ps.length < ps'.length := by
    intro U U' ps ps' h h' lt
    obtain ⟨t, l, h1, h2⟩ := h'.at lt
    have := h.fn h1
    subst this
    have := (List.getElem?_eq_some_iff.mp h2).1
    exact Nat.lt_irrefl _ this
  have e : os.length = os'.length := by
    have k1 := key h.run h'.run
    have k2 := key h'.run h.run
    omega
  have r := h.run
  rw [e] at r
  have e2 := r.fn h'.run
  have e3 : os = os' := congrArg Prod.fst e2
  have e4 : T.rows = T'.rows := congrArg Prod.snd e2
  have e5 : T.ends = T'.ends := by rw [h.marks, h'.marks, e3]
  cases T
  cases T'
  simp only at e4 e5
  rw [e4, e5]
theorem SubOk.rowlen {st : List Nat} {mv : Mv} {es : List Bool} {T : Tbl} {os : List (List Nat)} (h : SubOk st mv es T os) : ∀ r ∈ T.rows, ∃ l ∈ os, r.length ≤ (mvAt mv l).length := by
  intro r hr
  obtain ⟨j, hj, e⟩ := List.getElem_of_mem hr
  have hj2 : j < os.length := by rw [← h.len]; exact hj
  obtain ⟨r', h1, h2⟩ := h.row j _ (List.getElem?_eq_getElem hj2)
  have : r' = r := by
    rw [List.getElem?_eq_getElem hj] at h1
    exact (Option.some.inj h1).symm.trans e
  subst this
  refine ⟨_, List.getElem_mem hj2, ?_⟩
  have h3 := nodup_le (D := (mvAt mv os[j]).map (·.1)) h2.nd fun a ha => by
    obtain ⟨x, hx, e⟩ := (h2.has a).mp ha
    exact List.mem_map.mpr ⟨x, hx, e⟩
  simpa using h3
structure SubIn (Pset : List Nat → Prop) (st : List Nat) (mv : Mv) (es : List Bool) (limit : Nat) : Prop where
  st : Pset st ∧ Asc st
  step : ∀ l a m, Pset l → Asc l → Has mv l a → Asc m → (∀ n, n ∈ m ↔ Goal mv l a n) → Pset m
  lt : ∀ l, Pset l → ∀ n ∈ l, n < mv.length ∧ n < es.length
  h60 : ∀ l, ∀ x ∈ mvAt mv l, ∀ g ∈ x.2, g < 60
  big : ∀ l, Pset l → Asc l → (mvAt mv l).length ≤ 100000
  few : ∀ L : List (List Nat), L.Nodup → (∀ l ∈ L, Pset l ∧ Asc l) → L.length ≤ limit
  lim : limit ≤ 100000
  el : es.length ≤ 100000
abbrev sSub : Stmt := topS 6
abbrev nSub : List Str := ["start", "moves", "ends", "limit", "numbers", "order", "rows", "at", "groups", "row", "action", "goal", "marks", "nodes", "node"]
theorem scSub : FnScope nSub ["start", "moves", "ends", "limit"] (defScope sSub) := ⟨rfl, rfl, rfl, by decide +kernel, rfl, by decide +kernel, by decide +kernel⟩
/-- a list or a tuple of bools -/
def REnds (H : Hp) (v : V) (es : List Bool) : Prop := ∃ p, v = .ref p ∧ (H p = some (.lst (es.map V.bl)) ∨ H p = some (.tup (es.map V.bl)))
def spSub : Sp := fun vs H Q _ => ∃ x y z st mv es, ∃ limit : Nat, ∃ Pset : List Nat → Prop, vs = [x, y, z, .int (limit : Int)] ∧ RTup RNat H x st ∧ RMv H y mv ∧ REnds H z es ∧ SubIn Pset st mv es limit ∧
  ∀ (H' : Hp) (q : Addr) (T : Tbl) (os : List (List Nat)), Same H H' → H q = none → RTbl H' (.ref q) T → SubOk st mv es T os → (∀ l ∈ os, Pset l ∧ Asc l) → Q (.ref q) H'
abbrev scB (l : List (Str × NameKind)) : Scope := { kind := .function, names := l, isGenerator := false, isCoroutine := false }
/-- the state of the outer loop -/
structure SI (H0 : Hp) (mv : Mv) (Pset : List Nat → Prop) (st : List Nat) (dn do_ : Addr) (H : Hp) (os : List (List Nat)) : Prop where
  same : Same H0 H
  num : H dn = some (.dT (numK keyL os 0))
  ord : ∃ vs, H do_ = some (.lst vs) ∧ Paired (RTup RNat H) vs os
  nd : os.Nodup
  first : os[0]? = some st
  ps : ∀ l ∈ os, Pset l ∧ Asc l
theorem SI.add {H0 : Hp} {mv : Mv} {Pset : List Nat → Prop} {st : List Nat} {dn d2 : Addr} {H : Hp} {os : List (List Nat)} {l : List Nat} {v : V} {vs : List V} (g : SI H0 mv Pset st dn d2 H os) (hl : l ∉ os) (hp : Pset l ∧ Asc l) (n0 : H0 dn = none) (o0 : H0 d2 = none)
    (hv : RTup RNat H v l) (ho : H d2 = some (.lst vs)) (hvs : Paired (RTup RNat H) vs os) :
    SI H0 mv Pset st dn d2 (upd (upd H dn (.dT (numK keyL (os ++ [l]) 0))) d2 (.lst (vs ++ [v]))) (os ++ [l]) := by
  have nn : d2 ≠ dn := ne_of ho g.num (fun z => nomatch z)
  have ho1 : (upd H dn (.dT (numK keyL (os ++ [l]) 0))) d2 = some (.lst vs) := by rw [upd_ne nn]; exact ho
  have ts : TSm H (upd (upd H dn (.dT (numK keyL (os ++ [l]) 0))) d2 (.lst (vs ++ [v]))) := (TSm.re g.num (fun _ => nofun)).trans (TSm.re ho1 (fun _ => nofun))
  refine ⟨same_re (same_re g.same n0) o0, ?_, ⟨_, upd_same, psnoc ((RTup.tm RNat.tm).ps ts hvs) (RTup.tm RNat.tm _ _ _ _ ts hv)⟩, ?_, ?_, ?_⟩
  · rw [upd_ne nn.symm, upd_same]
  · refine List.nodup_append.mpr ⟨g.nd, by simp, fun b hb c hc e => ?_⟩
    have : c = l := by simpa using hc
    subst this
    exact hl (e ▸ hb)
  · exact pre_get (List.prefix_append _ _) g.first
  · intro b hb
    rcases List.mem_append.mp hb with hb | hb
    · exact g.ps b hb
    · have : b = l := by simpa using hb
      subst this
      exact hp
theorem SI.move {H0 : Hp} {mv : Mv} {Pset : List Nat → Prop} {st : List Nat} {dn d2 : Addr} {H H' : Hp} {os : List (List Nat)} (g : SI H0 mv Pset st dn d2 H os) (s : Same H0 H') (hn : H' dn = H dn) (ho : H' d2 = H d2) (t : TSm H H') : SI H0 mv Pset st dn d2 H' os :=
  ⟨s, hn.trans g.num, let ⟨vs, h1, h2⟩ := g.ord; ⟨vs, ho.trans h1, (RTup.tm RNat.tm).ps t h2⟩, g.nd, g.first, g.ps⟩
section
variable {P : Program} {w : World} {K : PySem.W.Frag} {mg : Str → Option Value} {base : Heap}
theorem ok_sub {f fG : Addr} {fd fdG : FuncData} {k : Nat} (F : Fun K "subset_table" "subset_table" sSub f fd) (FG : Fun K "grouped" "grouped" sGroup fG fdG) (bG : Binds K fdG ["nodes", "moves"] []) (gG : mg "grouped" = some (.ref fG))
    (mS : mg "sorted" = none) (mT : mg "tuple" = none) (mL : mg "len" = none) : FnOk P w K mg base CX0 (k + 2) f fd ["start", "moves", "ends", "limit"] spSub := by
  have GG : FnOk P w K mg base CX0 (k + 1) fG fdG ["nodes", "moves"] spGroup := ok_group FG mS mT
  refine F.ok scSub (fun vs H Q E h => ?_) (fun cdv A outer s0 H vs Q E hr h => ?_)
  · obtain ⟨x, y, z, st, mv, es, limit, Pset, rfl, _⟩ := h
    rfl
  · obtain ⟨x, y, z, st, mv, es, limit, Pset, rfl, hx, hy, hz, hin, q⟩ := h
    have hu := hu_of hr
    have nd := scSub.nd
    refine ⟨_, pss_cons (ps_set (i := 4) nd rfl (.inl rfl) (pe_disp1T hr.units (pv 0) pe_int))
      (pss_cons (ps_set (i := 5) nd rfl (.inl rfl) (pe_lst (pa_cons (pv 0) pa_nil)))
      (pss_cons (ps_set (i := 6) nd rfl (.inl rfl) (pe_lst pa_nil))
      (pss_cons (ps_set (i := 7) nd rfl (.inl rfl) pe_int)
      (pss_cons (ps_while PassesOwn.never (pt_cmp (pc_lt (pv 7) (pe_callB call_len_seq (by rfl) mL (by decide +kernel) (pa_cons (pv 5) pa_nil))))
        (pss_cons (ps_set (i := 8) nd rfl (.inl rfl) (pe_call GG hr (by rfl) gG FG.kp bG .nil pass0 (pa_cons (pe_ix ix_list (pv 5) (pv 7) (fun _ _ => rfl)) (pa_cons (pv 1) pa_nil))))
        (pss_cons (ps_set (i := 9) nd rfl (.inl rfl) (pe_lst pa_nil))
        (pss_cons (ps_for PassesOwn.never rfl (pi_list (pe_callB (cr_sortD rfl hr.units) (by rfl) mS (by decide +kernel) (pa_cons (pv 8) pa_nil))) (pg_name (i := 10) nd rfl (.inl rfl))
          (pss_cons (ps_set (i := 11) nd rfl (.inl rfl) (pe_dget hu (pv 8) (pv 10) (fun _ _ => rfl)))
          (pss_cons (ps_cut (ps_if (pt_cmp (pc_dnotin hu (pv 11) (pv 4)))
            (pss_cons (ps_if (pt_cmp (pc_eqI (pe_callB call_len_seq (by rfl) mL (by decide +kernel) (pa_cons (pv 5) pa_nil)) (pv 3))) (pss_one ps_never) pss_nil)
            (pss_cons (ps_dput hu (pv 4) (pv 11) (pe_callB call_len_seq (by rfl) mL (by decide +kernel) (pa_cons (pv 5) pa_nil)) rfl)
            (pss_one (ps_expr (pe_bm PySem.F.plainAttrs_list PySem.F.slot_list_append PySem.F.type_list_append mt_append (pv 5) (pa_cons (pv 11) pa_nil))))))
            pss_nil))
          (pss_one (ps_expr (pe_bm PySem.F.plainAttrs_list PySem.F.slot_list_append PySem.F.type_list_append mt_append (pv 9) (pa_cons (pe_tup (pa_cons (pv 10) (pa_cons (pe_dget hu (pv 4) (pv 11) (fun _ _ => rfl)) pa_nil))) pa_nil)))))))
        (pss_cons (ps_expr (pe_bm PySem.F.plainAttrs_list PySem.F.slot_list_append PySem.F.type_list_append mt_append (pv 6) (pa_cons (pe_callTy (cr_tup (K := K) rfl) (by rfl) mT (by decide +kernel) (pa_cons (pv 9) pa_nil)) pa_nil)))
        (pss_one (ps_aug (i := 7) nd rfl (.inl rfl) pe_int ip_add)))))))
      (pss_cons (ps_setLc (i := 12) (own := [("nodes", 13)]) (g := gName 13) (by rfl) nd rfl rfl (sw_true rfl rfl rfl (by decide +kernel)) (pi_list (pv 5)) (blkOk_by (N := nSub) (sc := defScope sSub) (by decide +kernel)) (fun _ _ _ _ _ => pg_name (i := 13) nd rfl (Or.inl rfl)) (fun _ _ _ _ _ => pts_nil)
        (fun _ _ _ _ _ => pe_cmpR (op_neLK (K := K) rfl hr.units) (pe_lc (own := [("node", 14)]) (g := gName 14) (by rfl) nd (pi_tupK (K := K) rfl (pv 13)) (blkOk_by (N := nSub) (sc := scB [(".0", .local), ("nodes", .local), ("ends", .cell)]) (by decide +kernel)) (fun _ _ _ _ _ => pg_name (i := 14) nd rfl (Or.inl rfl))
          (fun _ _ _ _ _ => pts_one (pt_val (pe_ix (ix_seqK (K := K) rfl) (pv 2) (pv 14) (fun _ _ => rfl)))) (fun _ _ _ _ _ => pv 14)) (pe_lst pa_nil) (nomark _)))
      (pss_one (ps_ret (pe_tup (pa_cons pe_str (pa_cons (pe_callTy (cr_tup (K := K) rfl) (by rfl) mT (by decide +kernel) (pa_cons (pv 6) pa_nil)) (pa_cons (pe_callTy (cr_tup (K := K) rfl) (by rfl) mT (by decide +kernel) (pa_cons (pv 12) pa_nil)) pa_nil))))))))))), ?_⟩
    obtain ⟨px, xs, rfl, hpx, hxs⟩ := id hx
    intro dn hdn
    refine ⟨_, rfl, px, keyL st, rfl, upd_same, TSm.new hdn _ _ (RTup.key hx), ?_⟩
    obtain ⟨H1, eH1⟩ : ∃ H1, H1 = upd (upd H dn (.dT [])) dn (.dT [(keyL st, .int 0)]) := ⟨_, rfl⟩
    rw [← eH1]
    have s1 : Same H H1 := by rw [eH1]; exact same_re (same_upd hdn) hdn
    have n1 : H1 dn = some (.dT (numK keyL [st] 0)) := by rw [eH1, upd_same]; rfl
    refine ⟨_, rfl, Nat.le_of_ble_eq_true rfl, fun d2 hd2 => ?_⟩
    have h02 : H d2 = none := s1.free hd2
    have n2 : (upd H1 d2 (.lst [.ref px])) dn = some (.dT (numK keyL [st] 0)) := same_upd hd2 _ _ n1
    refine ⟨Nat.le_of_ble_eq_true rfl, fun dr hdr => ?_⟩
    have s2 : Same H (upd H1 d2 (.lst [.ref px])) := s1.trans (same_upd hd2)
    have h0r : H dr = none := s2.free hdr
    have nr2 : d2 ≠ dr := fun e => by rw [← e, upd_same] at hdr; cases hdr
    have g0 : SI H mv Pset st dn d2 (upd (upd H1 d2 (.lst [.ref px])) dr (.lst [])) [st] := by
      refine ⟨s2.trans (same_upd hdr), same_upd hdr _ _ n2, ⟨[.ref px], same_upd hdr _ _ upd_same, .cons ?_ .nil⟩, by simp, rfl, ?_⟩
      · exact RTup.mono RNat.mono _ _ _ _ (s2.trans (same_upd hdr)) hx
      · intro l hl
        have : l = st := by simpa using hl
        subst this
        exact hin.st
    have hlim : ∀ {H' : Hp} {os : List (List Nat)}, SI H mv Pset st dn d2 H' os → os.length ≤ limit := fun g => hin.few _ g.nd g.ps
    refine ⟨fun m σ H' => ∃ i os rws y8 y9 y10 y11, σ = [some (.ref px), some y, some z, some (.int (limit : Int)), some (.ref dn), some (.ref d2), some (.ref dr), some (.int ((i : Nat) : Int)), y8, y9, y10, y11, none, none, none] ∧ SI H mv Pset st dn d2 H' os ∧
        (∃ rvs, H' dr = some (.lst rvs) ∧ Paired (RRow H') rvs rws) ∧ rws.length = i ∧ i ≤ os.length ∧ (∀ k l, k < i → os[k]? = some l → ∃ r, rws[k]? = some r ∧ RowOk mv os l r) ∧ Rn mv st i (os, rws) ∧ m = limit - i,
      ⟨_, 0, [st], [], none, none, none, none, rfl, g0, ⟨[], upd_same, .nil⟩, rfl, by simp, (fun k l hk => absurd hk (Nat.not_lt_zero k)), rfl, rfl⟩, ?_⟩
    rintro m σ H' ⟨i, os, rws, y8, y9, y10, y11, rfl, g, ⟨rvs, hr1, hr2⟩, hlen, hile, hrows, hrun, rfl⟩
    obtain ⟨ovs, ho, hovs⟩ := g.ord
    have hol := plen hovs
    refine ⟨_, rfl, _, rfl, d2, ovs, rfl, .inl (SqL.of ho), _, _, rfl, rfl, _, rfl, ?_⟩
    refine ite2 (fun e => ?_) (fun e => ?_)
    · have hi : i < os.length := by
        have e2 : (i : Int) < ((ovs.length : Nat) : Int) := of_decide_eq_true e
        omega
      refine ⟨fun σ' H'' => ∃ m', m' < limit - i ∧ _, fun _ _ h => h, ?_⟩
      obtain ⟨l, hl⟩ : ∃ l, os[i]? = some l := ⟨_, List.getElem?_eq_getElem hi⟩
      obtain ⟨v, hv, rv⟩ := pget' hovs hl
      have hlm : l ∈ os := List.mem_of_getElem? hl
      obtain ⟨pl, al⟩ := g.ps l hlm
      refine ⟨_, rfl, _, rfl, d2, ovs, _, v, rfl, rfl, SqL.of ho, atI_nat hv, _, rfl, v, y, mv, l, rfl, rv, RMv.mono _ _ _ _ g.same hy, fun n hn => (hin.lt l pl n hn).1, hin.h60 l, hin.big l pl al, fun Hg D gs sg nD hgr gnd gord gmem gprop => ?_⟩
      obtain ⟨D1, gk, eD, hD, hgp⟩ := hgr
      cases eD
      have gg : SI H mv Pset st dn d2 Hg os := ⟨g.same.trans sg, sg _ _ g.num, ⟨ovs, sg _ _ ho, pmono hovs fun _ _ z => RTup.mono RNat.mono _ _ _ _ sg z⟩, g.nd, g.first, g.ps⟩
      refine ⟨Nat.le_of_ble_eq_true rfl, fun rl hrl => ?_⟩
      have ns5 : Same Hg (upd Hg rl (.lst [])) := same_upd hrl
      have gsl : gs.length ≤ 100000 := by
        have h1 := nodup_le (D := (mvAt mv l).map (·.1)) gnd fun a ha => by
          obtain ⟨x, hx, e⟩ := (gmem a).mp ha
          exact List.mem_map.mpr ⟨x, hx, e⟩
        have h2 := hin.big l pl al
        simp only [List.length_map] at h1
        omega
      refine ⟨_, rfl, D, gk, gs.map (·.1), rfl, .inl (ns5 _ _ hD), by rw [List.map_map]; exact pmapeq hgp fun _ _ z => z.1, by rw [List.length_map]; omega, fun vs' as' sl eas pm pr nsl => ?_⟩
      -- the heap before the inner loop
      have rl_dn : rl ≠ dn := fun e => by rw [e, gg.num] at hrl; cases hrl
      have rl_d2 : rl ≠ d2 := fun e => by rw [e, sg _ _ ho] at hrl; cases hrl
      have rl_dr : rl ≠ dr := fun e => by rw [e, sg _ _ hr1] at hrl; cases hrl
      have rl_D : rl ≠ D := fun e => by rw [e, hD] at hrl; cases hrl
      obtain ⟨H6, eH6⟩ : ∃ H6, H6 = upd (upd Hg rl (.lst [])) sl (.lst vs') := ⟨_, rfl⟩
      rw [← eH6]
      have s6 : Same Hg H6 := by rw [eH6]; exact ns5.trans (same_upd nsl)
      have sl_dn : sl ≠ dn := fun e => by rw [e, ns5 _ _ gg.num] at nsl; cases nsl
      have sl_d2 : sl ≠ d2 := fun e => by rw [e, ns5 _ _ (sg _ _ ho)] at nsl; cases nsl
      have sl_rl : sl ≠ rl := fun e => by rw [e, upd_same] at nsl; cases nsl
      have g6 : SI H mv Pset st dn d2 H6 os := ⟨gg.same.trans s6, s6 _ _ gg.num, ⟨ovs, s6 _ _ (sg _ _ ho), pmono hovs fun _ _ z => RTup.mono RNat.mono _ _ _ _ (sg.trans s6) z⟩, g.nd, g.first, g.ps⟩
      have hrl0 : H rl = none := gg.same.free hrl
      have pr6 : Paired (RAct H6) vs' as' := pmono pr fun _ _ z => by
        rw [eH6]
        exact RAct.mono _ _ _ _ (same_upd nsl) z
      have hgp6 : Paired (fun (kv : List L2.Key × V) (g : Act × List Nat) => kv.1 = actK g.1 ∧ RTup RNat H6 kv.2 g.2) gk gs := Paired.mapP hgp fun _ _ z => ⟨z.1, RTup.mono RNat.mono _ _ _ _ s6 z.2⟩
      have as'nd : as'.Nodup := pm.nodup_iff.mpr gnd
      have h6r : H6 rl = some (.lst []) := by rw [eH6, upd_ne sl_rl.symm, upd_same]
      have h6s : H6 sl = some (.lst vs') := by rw [eH6, upd_same]
      refine ⟨sl, rfl, ⟨_, SqL.of h6s⟩, for_it (walk_list (xs := vs')) (fun j σ H7 => ∃ os' rr y10 y11, σ = [some (.ref px), some y, some z, some (.int (limit : Int)), some (.ref dn), some (.ref d2), some (.ref dr), some (.int ((i : Nat) : Int)), some (.ref D), some (.ref rl), y10, y11, none, none, none] ∧
          SI H mv Pset st dn d2 H7 os' ∧ os <+: os' ∧ TSm H6 H7 ∧ H7 D = some (.dT gk) ∧ H7 sl = some (.lst vs') ∧ H7 dr = some (.lst rvs) ∧ (∃ xs, H7 rl = some (.lst xs) ∧ Paired (RPr RAct RNat H7) xs rr) ∧ rr.map (·.1) = as'.take j ∧ Stp mv l (as'.take j) (os, []) (os', rr) ∧
          ∀ p ∈ rr, ∃ m, os'[p.2]? = some m ∧ Asc m ∧ ∀ n, n ∈ m ↔ Goal mv l p.1 n)
        ⟨os, [], _, _, rfl, g6, List.prefix_rfl, TSm.rfl, s6 _ _ hD, h6s, s6 _ _ (sg _ _ hr1), ⟨[], h6r, .nil⟩, rfl, rfl, by simp⟩ (fun j σ H7 _ ⟨_, _, _, _, _, _, _, _, _, hs7, _⟩ => SqL.of hs7) ?_ ?_⟩
      · rintro j yv σ H7 H8 hj ⟨os', rr, y10, y11, rfl, g7, pre, t7, hD7, hs7, hr7, ⟨xr, hrl7, hxr⟩, hrk, hstp, hrg⟩ ⟨rfl, hyj⟩
        obtain ⟨a, ha, pa, rfl, hpa⟩ := pget pr6 hyj
        have hpa7 : H8 pa = some (.tup ((actK a).map kV)) := t7 _ _ hpa
        obtain ⟨gq, hgm, rfl⟩ : ∃ gq ∈ gs, gq.1 = a := List.mem_map.mp (pm.mem_iff.mp (List.mem_of_getElem? ha))
        obtain ⟨gv, hgv, rgv⟩ := kv_val (f := fun g : Act × List Nat => actK g.1) (G := fun v g => RTup RNat H6 v g.2) hgp6 (by have h := map_nodup (f := actK) (fun _ _ => actK_inj) gnd; rw [List.map_map] at h; exact h) gq hgm
        have rgv7 := RTup.tm RNat.tm _ _ _ _ t7 rgv
        have gpr := gprop gq hgm
        have hasA : Has mv l gq.1 := (gmem gq.1).mp (List.mem_map.mpr ⟨gq, hgm, rfl⟩)
        have psg : Pset gq.2 := hin.step l gq.1 gq.2 pl al hasA gpr.1 gpr.2
        obtain ⟨pg, gvs, rfl, hpg, hpgs⟩ := id rgv7
        have keyg : H8 pg = some (.tup ((keyL gq.2).map kV)) := RTup.key rgv7
        refine ⟨_, rfl, _, rfl, D, _, rfl, by have h := DGet.t hD7 hpa7; rw [hgv] at h; exact h, ?_⟩
        obtain ⟨ovs', ho', hovs'⟩ := g7.ord
        have hol' := plen hovs'
        have lim7 := hlim g7
        have hlimB := hin.lim
        have nval := numK_val (f := keyL) keyL_inj (l := gq.2) (xs := os') (j := 0)
        -- what stands behind the test
        refine ⟨fun σ' H9 => ∃ os2, ∃ gi : Nat, σ' = [some (.ref px), some y, some z, some (.int (limit : Int)), some (.ref dn), some (.ref d2), some (.ref dr), some (.int ((i : Nat) : Int)), some (.ref D), some (.ref rl), some (.ref pa), some (.ref pg), none, none, none] ∧
          SI H mv Pset st dn d2 H9 os2 ∧ os' <+: os2 ∧ TSm H8 H9 ∧ H9 D = some (.dT gk) ∧ H9 sl = some (.lst vs') ∧ H9 dr = some (.lst rvs) ∧ H9 rl = some (.lst xr) ∧ ixO os2 gq.2 = some gi ∧ ((ixO os' gq.2 = some gi ∧ os2 = os') ∨ (ixO os' gq.2 = none ∧ os2 = os' ++ [gq.2] ∧ gi = os'.length)), ⟨_, rfl, _, rfl, dn, _, rfl, DGet.t g7.num keyg, _, rfl, ite2 (fun e1 => ?_) (fun e1 => ?_)⟩, ?_⟩
        · have hnew : gq.2 ∉ os' := by
            rw [← ixO_none]
            cases h : ixO os' gq.2 with
            | none => rfl
            | some i => rw [nval, h] at e1; cases e1
          have hvn : valV (numK keyL os' 0) (keyL gq.2) = none := by rw [nval, ixO_none.mpr hnew]; rfl
          have g9 := g7.add hnew ⟨psg, gpr.1⟩ hdn h02 rgv7 ho' hovs'
          have l9 := hlim g9
          rw [List.length_append, List.length_singleton] at l9
          refine ⟨_, rfl, d2, ovs', rfl, .inl (SqL.of ho'), _, rfl, _, _, rfl, rfl, _, rfl, ite2 (fun e2 => ?_) (fun e2 => ?_)⟩
          · have e3 : ((ovs'.length : Nat) : Int) = (limit : Int) := of_decide_eq_true e2
            omega
          refine ⟨_, rfl, d2, ovs', rfl, .inl (SqL.of ho'), _, rfl, _, rfl, dn, _, rfl, DPut.t g7.num keyg (by rw [numK_len, sizeLine_eq]; omega), ?_⟩
          have ek : numK keyL os' 0 ++ [(keyL gq.2, V.int ((ovs'.length : Nat) : Int))] = numK keyL (os' ++ [gq.2]) 0 := by rw [numK_snoc, hol', Nat.zero_add]
          rw [putK_new _ hvn, ek]
          have n2d : d2 ≠ dn := ne_of ho' g7.num (fun z => nomatch z)
          have ho8 : (upd H8 dn (.dT (numK keyL (os' ++ [gq.2]) 0))) d2 = some (.lst ovs') := by rw [upd_ne n2d]; exact ho'
          have keep : ∀ {b : Addr} {o : HO}, b ≠ dn → b ≠ d2 → H8 b = some o → (upd (upd H8 dn (.dT (numK keyL (os' ++ [gq.2]) 0))) d2 (.lst (ovs' ++ [.ref pg]))) b = some o := fun h1 h2 h => by rw [upd_ne h2, upd_ne h1]; exact h
          refine ⟨.ref d2, rfl, .inl ⟨rfl, _, .inl (.inl ho8)⟩, _, rfl, d2, ovs', _, rfl, rfl, ho8, by rw [sizeLine_eq]; omega, ?_⟩
          have D_dn : D ≠ dn := fun e => by rw [e, g.num] at nD; cases nD
          have D_d2 : D ≠ d2 := fun e => by rw [e, ho] at nD; cases nD
          have dr_dn : dr ≠ dn := ne_of hr7 g7.num (fun z => nomatch z)
          exact ⟨os' ++ [gq.2], os'.length, rfl, g9, List.prefix_append _ _, (TSm.re g7.num (fun _ => nofun)).trans (TSm.re ho8 (fun _ => nofun)), keep D_dn D_d2 hD7, keep sl_dn sl_d2 hs7, keep dr_dn nr2.symm hr7, keep rl_dn rl_d2 hrl7, ixO_new hnew, .inr ⟨ixO_none.mpr hnew, rfl, rfl⟩⟩
        · cases hix : ixO os' gq.2 with
          | none => rw [nval, hix] at e1; exact absurd rfl e1
          | some gi => exact ⟨os', gi, rfl, g7, List.prefix_rfl, TSm.rfl, hD7, hs7, hr7, hrl7, hix, .inl ⟨rfl, rfl⟩⟩
        · rintro σ' H9 ⟨os2, gi, rfl, g9, pre2, t9, hD9, hs9, hr9, hrl9, hix, hcase⟩
          have keyg9 := t9 _ _ keyg
          have nv9 := numK_val (f := keyL) keyL_inj (l := gq.2) (xs := os2) (j := 0)
          rw [hix, Option.map_some, Nat.zero_add] at nv9
          refine ⟨.ref rl, rfl, .inl ⟨rfl, _, .inl (.inl hrl9)⟩, _, rfl, _, rfl, _, rfl, dn, _, rfl, by have h := DGet.t g9.num keyg9; rw [nv9] at h; exact h, Nat.le_of_ble_eq_true rfl, fun tp ntp => ?_⟩
          have tprl : rl ≠ tp := ne_of_none hrl9 ntp
          have hrl10 : (upd H9 tp (.tup [.ref pa, .int ((gi : Nat) : Int)])) rl = some (.lst xr) := by rw [upd_ne tprl]; exact hrl9
          have xl : xr.length ≤ 100000 := by
            have h1 := plen hxr
            have h2 := congrArg List.length hrk
            have h3 := pm.length_eq
            simp only [List.length_map, List.length_take] at h2 h3
            omega
          refine ⟨rl, xr, _, rfl, rfl, hrl10, by rw [sizeLine_eq]; omega, ?_⟩
          have keep : ∀ {b : Addr} {o : HO}, b ≠ rl → H9 b = some o → (upd (upd H9 tp (.tup [.ref pa, .int ((gi : Nat) : Int)])) rl (.lst (xr ++ [.ref tp]))) b = some o := fun h1 h => by rw [upd_ne h1, upd_ne (ne_of_none h ntp)]; exact h
          have t10 : TSm H9 (upd (upd H9 tp (.tup [.ref pa, .int ((gi : Nat) : Int)])) rl (.lst (xr ++ [.ref tp]))) := (TSm.new ntp).trans (TSm.re hrl10 (fun _ => nofun))
          obtain ⟨ov9, ho9, _⟩ := g9.ord
          refine ⟨os2, rr ++ [(gq.1, gi)], _, _, rfl, g9.move (same_re (g9.same.trans (same_upd ntp)) hrl0) ((keep rl_dn.symm g9.num).trans g9.num.symm) ((keep rl_d2.symm ho9).trans ho9.symm) t10, pre.trans pre2, (t7.trans t9).trans t10, keep rl_D.symm hD9, keep sl_rl hs9, keep rl_dr.symm hr9,
            ⟨_, upd_same, psnoc ((RPr.tm RAct.tm RNat.tm).ps (t9.trans t10) hxr) ⟨tp, .ref pa, .int ((gi : Nat) : Int), rfl, ?_, ⟨pa, rfl, t10 _ _ (t9 _ _ hpa7)⟩, rfl⟩⟩, ?_, ?_, fun p hp => ?_⟩
          · rw [upd_ne tprl.symm, upd_same]
          · rw [List.map_append, hrk, take_snoc ha]
            rfl
          · rw [take_snoc ha]
            exact hstp.snoc ⟨gq.2, gi, gpr.1, gpr.2, hcase, rfl⟩
          · rcases List.mem_append.mp hp with hp | hp
            · obtain ⟨m, h1, h2⟩ := hrg p hp
              exact ⟨m, pre_get pre2 h1, h2⟩
            · have : p = (gq.1, gi) := by simpa using hp
              subst this
              exact ⟨gq.2, ixO_some hix, gpr.1, gpr.2⟩
      · rintro σ H7 ⟨os', rr, y10, y11, rfl, g7, pre, t7, hD7, hs7, hr7, ⟨xr, hrl7, hxr⟩, hrk, hstp, hrg⟩
        have ek : rr.map (·.1) = as' := by rw [hrk, plen pr6]; exact List.take_length
        have lim7 := hlim g7
        have hlimB := hin.lim
        have hpl : os.length ≤ os'.length := pre.length_le
        refine ⟨.ref dr, rfl, .inl ⟨rfl, _, .inl (.inl hr7)⟩, _, rfl, rl, xr, rfl, .inl ⟨SqL.of hrl7, fun tp ntp => ?_⟩⟩
        have dr_tp : dr ≠ tp := ne_of_none hr7 ntp
        have hr8 : (upd H7 tp (.tup xr)) dr = some (.lst rvs) := by rw [upd_ne dr_tp]; exact hr7
        have rvl := plen hr2
        refine ⟨dr, rvs, _, rfl, rfl, hr8, by rw [sizeLine_eq]; omega, ?_⟩
        refine ⟨_, rfl, _, _, rfl, rfl, ?_⟩
        have t8 : TSm H7 (upd (upd H7 tp (.tup xr)) dr (.lst (rvs ++ [.ref tp]))) := (TSm.new ntp).trans (TSm.re hr8 (fun _ => nofun))
        have dr_dn : dn ≠ dr := ne_of g7.num hr7 (fun z => nomatch z)
        have keep : ∀ {b : Addr} {o : HO}, b ≠ dr → H7 b = some o → (upd (upd H7 tp (.tup xr)) dr (.lst (rvs ++ [.ref tp]))) b = some o := fun h1 h => by rw [upd_ne h1, upd_ne (ne_of_none h ntp)]; exact h
        obtain ⟨ov7, ho7, _⟩ := g7.ord
        have t06 : TSm H' H6 := Same.ts (sg.trans s6)
        refine ⟨limit - (i + 1), by omega, i + 1, os', rws ++ [rr], _, _, _, _, rfl, g7.move (same_re (g7.same.trans (same_upd ntp)) h0r) ((keep dr_dn g7.num).trans g7.num.symm) ((keep nr2 ho7).trans ho7.symm) t8,
          ⟨_, upd_same, psnoc (RRow.tm.ps ((t06.trans t7).trans t8) hr2) ⟨tp, xr, rfl, by rw [upd_ne dr_tp.symm, upd_same], (RPr.tm RAct.tm RNat.tm).ps t8 hxr⟩⟩, by rw [List.length_append, hlen]; rfl, by omega, fun k l2 hk hl2 => ?_, ?_, rfl⟩
        by_cases hki : k < i
        · have hlk : os[k]? = some l2 := by
            have h1 : k < os.length := by omega
            have h2 := pre_get pre (List.getElem?_eq_getElem h1)
            rw [h2] at hl2
            rw [List.getElem?_eq_getElem h1]
            exact hl2
          obtain ⟨r, h1, h2⟩ := hrows k l2 hki hlk
          exact ⟨r, by rw [List.getElem?_append_left (by omega)]; exact h1, h2.pre pre⟩
        · have hke : k = i := by omega
          subst hke
          have e2 := pre_get pre hl
          rw [e2] at hl2
          cases hl2
          refine ⟨rr, by rw [List.getElem?_append_right (by omega), hlen, Nat.sub_self]; rfl, by rw [ek]; exact as'nd, fun a => ?_, hrg⟩
          rw [ek, pm.mem_iff]
          exact gmem a
        · refine ⟨(os, rws), l, rr, hrun, hl, ?_, rfl⟩
          have e3 : as'.take vs'.length = as' := by rw [plen pr6]; exact List.take_length
          rw [e3, eas, gord] at hstp
          exact hstp
    · have hi : i = os.length := by
        have e2 : ¬ (i : Int) < ((ovs.length : Nat) : Int) := fun z => e (decide_eq_true z)
        omega
      have lim7 := hlim g
      have hlimB := hin.lim
      have hz' : ∀ {H' : Hp} {n : Nat} {b : Bool} {Q : VK}, Same H H' → es[n]? = some b → Q (.bl b) H' → rIx K z (.int ((n : Nat) : Int)) H' Q := by
        intro H' n b Q s hb hq
        obtain ⟨pz, rfl, hz | hz⟩ := hz
        · exact .inl ⟨pz, _, _, _, rfl, rfl, SqL.of (s _ _ hz), atI_nat (by rw [List.getElem?_map, hb]; rfl), hq⟩
        · exact .inr (.inl ⟨pz, _, _, _, rfl, rfl, SqT.of (s _ _ hz), atI_nat (by rw [List.getElem?_map, hb]; rfl), hq⟩)
      refine ⟨.ref d2, rfl, d2, rfl, ⟨_, SqL.of ho⟩, fun dm ndm => lc_it (walk_list (xs := ovs)) (fun j H7 => Same H' H7 ∧ H7 dm = some (.lst ((os.take j).map fun l => V.bl (l.any fun n => es.getD n false)))) ⟨same_upd ndm, by rw [upd_same]; rfl⟩ (fun j H7 _ ⟨sm, _⟩ => SqL.of (sm _ _ ho)) ?_ ?_⟩
      · rintro j yv H7 H8 hj ⟨sm, hm⟩ ⟨rfl, hyj⟩
        refine ⟨rfl, iteT (B := True) ?_⟩
        obtain ⟨l, hl, pp, ys, rfl, hpp, hys⟩ := pget hovs hyj
        have eys := pnat hys
        subst eys
        have hlm : l ∈ os := List.mem_of_getElem? hl
        refine ⟨.ref pp, rfl, pp, rfl, ⟨_, SqT.of (sm _ _ hpp)⟩, fun d5 nd5 => lc_it (walk_tup (xs := l.map fun n : Nat => V.int (n : Int))) (fun m H9 => Same H8 H9 ∧ H9 d5 = some (.lst ((((l.take m).filter fun n => es.getD n false).map fun n : Nat => (n : Int)).map V.int))) ⟨same_upd nd5, by rw [upd_same]; rfl⟩ (fun m H9 _ ⟨s9, _⟩ => SqT.of (s9 _ _ (sm _ _ hpp))) ?_ ?_⟩
        · rintro m yn H9 H10 hm9 ⟨s9, h5⟩ ⟨rfl, hyn⟩
          obtain ⟨n, hn, rfl⟩ : ∃ n, l[m]? = some n ∧ yn = .int ((n : Nat) : Int) := by
            rw [List.getElem?_map] at hyn
            cases e : l[m]? with
            | none => rw [e] at hyn; cases hyn
            | some n => rw [e] at hyn; exact ⟨n, rfl, (Option.some.inj hyn).symm⟩
          obtain ⟨b, hb⟩ : ∃ b, es[n]? = some b := ⟨_, List.getElem?_eq_getElem (hin.lt l (g.ps l hlm).1 n (List.mem_of_getElem? hn)).2⟩
          have eb : es.getD n false = b := by simp [hb]
          have fl : (l.take (m + 1)).filter (fun n => es.getD n false) = (l.take m).filter (fun n => es.getD n false) ++ (if b = true then [n] else []) := by
            rw [take_snoc hn, filter_snoc, eb]
          refine ⟨rfl, _, rfl, _, rfl, hz' (g.same.trans (sm.trans s9)) hb ⟨_, rfl, ?_⟩⟩
          refine ite2 (fun e1 => ?_) (fun e1 => ?_)
          · have fln : ((l.take m).filter fun n => es.getD n false).length ≤ 100000 := by
              have h1 := List.length_filter_le (fun n => es.getD n false) (l.take m)
              have h2 : l.length ≤ 60 ∨ l.length ≤ 100000 := by
                have h3 := lt_len (Asc.nodup (g.ps l hlm).2) (n := es.length) fun n hn => (hin.lt l (g.ps l hlm).1 n hn).2
                exact .inr (Nat.le_trans h3 hin.el)
              rw [List.length_take] at h1
              omega
            refine ⟨_, rfl, _, h5, by rw [List.length_map, List.length_map, sizeLine_eq]; omega, same_re s9 nd5, ?_⟩
            rw [upd_same, fl, if_pos e1, List.map_append, List.map_append]
            rfl
          · refine ⟨s9, ?_⟩
            rw [fl, if_neg e1, List.append_nil]
            exact h5
        · rintro H9 ⟨s9, h5⟩
          have et : l.take (l.map fun n : Nat => V.int (n : Int)).length = l := by rw [List.length_map]; exact List.take_length
          rw [et] at h5
          have h5m : d5 ≠ dm := fun e => by rw [e, hm] at nd5; cases nd5
          refine ⟨Nat.le_of_ble_eq_true rfl, fun d6 nd6 => ⟨d5, d6, _, rfl, rfl, SqL.of (same_upd nd6 _ _ h5), SqL.of upd_same, ?_⟩⟩
          have sm9 := s9.trans (same_upd (o := .lst []) nd6)
          refine ⟨_, sm9 _ _ hm, by rw [List.length_map, List.length_take, sizeLine_eq]; omega, same_re (sm.trans sm9) ndm, ?_⟩
          rw [upd_same, take_snoc hl, List.map_append]
          have eb : (!((l.filter fun n => es.getD n false).map fun n : Nat => (n : Int)).isEmpty) = l.any fun n => es.getD n false := by
            cases h : l.any fun n => es.getD n false with
            | true =>
              obtain ⟨n, h1, h2⟩ := List.any_eq_true.mp h
              have h3 : n ∈ l.filter fun n => es.getD n false := List.mem_filter.mpr ⟨h1, h2⟩
              cases h4 : l.filter fun n => es.getD n false with
              | nil => rw [h4] at h3; cases h3
              | cons x xs => rfl
            | false =>
              have h4 : (l.filter fun n => es.getD n false) = [] := by
                rw [List.filter_eq_nil_iff]
                intro n hn h2
                have : l.any (fun n => es.getD n false) = true := List.any_eq_true.mpr ⟨n, hn, h2⟩
                rw [h] at this
                cases this
              rw [h4]
              rfl
          rw [eb]
          rfl
      · rintro H7 ⟨sm, hm⟩
        rw [hol, List.take_length] at hm
        have s7 : Same H H7 := g.same.trans sm
        refine ⟨.ref dr, rfl, dr, rvs, rfl, .inl ⟨SqL.of (sm _ _ hr1), fun t1 nt1 => ?_⟩⟩
        refine ⟨.ref dm, rfl, dm, _, rfl, .inl ⟨SqL.of (same_upd nt1 _ _ hm), fun t2 nt2 => ?_⟩⟩
        refine ⟨Nat.le_of_ble_eq_true rfl, fun t3 nt3 => ?_⟩
        have s8 := (sm.trans (same_upd (o := .tup rvs) nt1)).trans (same_upd (o := .tup (os.map fun l => V.bl (l.any fun n => es.getD n false))) nt2)
        have s9 := s8.trans (same_upd (o := .tup [.str "table", .ref t1, .ref t2]) nt3)
        have sF : Same H _ := g.same.trans s9
        refine q _ t3 ⟨rws, os.map fun l => l.any fun n => es.getD n false⟩ os sF ((g.same.trans s8).free nt3) ⟨t3, .ref t1, .ref t2, rfl, upd_same, ⟨t1, rvs, rfl, ?_, pmono hr2 fun _ _ z => RRow.mono _ _ _ _ s9 z⟩, ⟨t2, _, rfl, same_upd nt3 _ _ upd_same, ?_⟩⟩ ?_ g.ps
        · exact same_upd nt3 _ _ (same_upd nt2 _ _ upd_same)
        · have := blp (H := upd (upd (upd H7 t1 (.tup rvs)) t2 (.tup (os.map fun l => V.bl (l.any fun n => es.getD n false)))) t3 (.tup [.str "table", .ref t1, .ref t2])) (bs := os.map fun l => l.any fun n => es.getD n false)
          rw [List.map_map] at this
          exact this
        · have hrow : ∀ (j : Nat) l, os[j]? = some l → ∃ r, rws[j]? = some r ∧ RowOk mv os l r := fun j l hj => hrows j l (by have := (List.getElem?_eq_some_iff.mp hj).1; omega) hj
          have h0 : 0 < os.length := (List.getElem?_eq_some_iff.mp g.first).1
          have ofrow : ∀ row ∈ rws, ∃ l ∈ os, RowOk mv os l row := fun row hrow' => by
            obtain ⟨j, hj, e⟩ := List.getElem_of_mem hrow'
            have hj2 : j < os.length := by omega
            obtain ⟨r, h1, h2⟩ := hrow j _ (List.getElem?_eq_getElem hj2)
            have : r = row := by
              rw [List.getElem?_eq_getElem hj] at h1
              exact (Option.some.inj h1).symm.trans e
            exact ⟨_, List.getElem_mem hj2, this ▸ h2⟩
          refine ⟨g.nd, g.first, by show rws.length = os.length; omega, ⟨fun row hr p hp => ?_, ?_, ?_, fun row hr => ?_⟩, fun j l hj => ?_, hrow, by rw [← hi]; exact hrun, rfl⟩
          · obtain ⟨l, _, h⟩ := ofrow row hr
            obtain ⟨m, h1, _⟩ := h.go p hp
            have := (List.getElem?_eq_some_iff.mp h1).1
            show p.2 < rws.length
            omega
          · show (os.map _).length = rws.length
            rw [List.length_map]
            omega
          · show 0 < rws.length
            omega
          · obtain ⟨l, _, h⟩ := ofrow row hr
            exact h.nd
          · show (os.map _)[j]? = _
            rw [List.getElem?_map, hj]
            rfl
end
end PL
namespace PL
open PySem PySem.Spec PyProof.Rows L2
section
variable {X : Cx}
def tDNewN (P : Program) (w : World) : TE := fun _ H Q => ∀ p, H p = none → Q (.ref p) (upd H p (NDo P w p []))
theorem pe_dnewN {pos : Pos} : PE X (.Dict [] [] pos) (tDNewN X.prog X.w) := ⟨fun pins s σ H Q I h =>
  wpAny_Dict_empty ⟨.ref s.heap.objs.size, _, I.laid (a := s.heap.objs.size) (o := NDo X.prog X.w s.heap.objs.size []) (t' := s.toks) (fun _ _ q => Heap.get?_push_of_some _ q) (Nat.le_refl _)
    (nd_new (Nat.zero_le _) (beq_eq_false_iff_ne.mpr (Ne.symm (Nat.ne_of_lt I.big))) .nil (Heap.DictOfH.new s.heap)), rfl, h _ (I.hok.fresh (Nat.le_refl _))⟩⟩
end
section
variable {P : Program} {w : World} {H H' : Hp} {a : Addr} {kvs : List NKV}
theorem ND.nil (h : H a = some (NDo P w a [])) : ND P w H a [] := ⟨h, by simp⟩
theorem ND.tm (d : ND P w H a kvs) (t : TSm H H') (e : H' a = H a) : ND P w H' a kvs := ⟨e.trans d.pt, fun p hp => ⟨NR.tups t _ _ (d.keys p hp).1, (d.keys p hp).2⟩⟩
theorem ndVal_V : ∀ (kvs : List NKV) (k : NestedKey), ndVal kvs k = valV (kvs.map fun x => (x.1, x.2.2)) k
  | [], _ => rfl
  | x :: kvs, k => by
    rw [List.map_cons]
    by_cases e : x.1 = k
    · rw [valV_pos e]
      unfold ndVal
      rw [List.find?_cons_of_pos (by simpa using e)]
      rfl
    · rw [valV_neg e, ← ndVal_V kvs k]
      unfold ndVal
      rw [List.find?_cons_of_neg (by simpa using e)]
theorem ND.kind (d : ND P w H a kvs) {o : HO} (h : H a = some o) : o = NDo P w a kvs := by
  have := d.pt
  rw [h] at this
  exact Option.some.inj this
theorem ND.not_tup (d : ND P w H a kvs) : ∀ ys, NDo P w a kvs ≠ .tup ys := fun _ e => nomatch e
theorem NR.tm (t : TSm H H') {k : NestedKey} {v : V} (h : NR H k v) : NR H' k v := NR.tups t k v h
end
theorem walk_rg {n : Nat} : L2.Walk (Itr 0 n) n (fun _ => True) (YFn fun i => .int ((i : Nat) : Int)) := ⟨fun _ _ hi _ => hi, fun _ _ => Nat.le_refl _, fun i H x H' _ _ y => by
  obtain ⟨h1, h2⟩ := y
  exact ⟨h1, by rw [h2, Int.zero_add]⟩⟩
theorem kv_ix {κ β : Type} [DecidableEq κ] {f : β → κ} {G : V → β → Prop} : ∀ {kvs : List (κ × V)} {gs : List β}, Paired (fun kv g => kv.1 = f g ∧ G kv.2 g) kvs gs → (gs.map f).Nodup → ∀ {i : Nat} {kv : κ × V} {g : β}, kvs[i]? = some kv → gs[i]? = some g → valV kvs (f g) = some kv.2
  | _, _, .nil, _, _, _, _, h, _ => by cases h
  | kv :: kvs, g0 :: gs, .cons r t, nd, i, kv', g, h1, h2 => by
    have n2 := List.nodup_cons.mp (show (f g0 :: gs.map f).Nodup from nd)
    cases i with
    | zero =>
      cases h1
      cases h2
      exact valV_pos r.1
    | succ i =>
      have h2 : gs[i]? = some g := h2
      have h1 : kvs[i]? = some kv' := h1
      rw [valV_neg fun e : kv.1 = f g => n2.1 (by rw [← r.1, e]; exact List.mem_map.mpr ⟨g, List.mem_of_getElem? h2, by rfl⟩)]
      exact kv_ix t n2.2 h1 h2
/-- two names in a comprehension -/
abbrev g2 (K : PySem.W.Frag) (i j : Nat) : TG := gTup K 2 (gCons (gName i) (gCons (gName j) gNil))
theorem pg_tupK {X : Cx} {K : PySem.W.Frag} {es : List Expr} {k : Nat} {t : TGs} {n : Nat} {pos : Pos} (hK : X.K = K) (hc : X.calm = true) (h : PGs X es t)
    (hn : (assignEach es X.env).length = n := by rfl) (hst : (assignEach es X.env).findIdx? (·.1) = none := by rfl) : PG X (.Tuple es k pos) (gTup K n t) := by
  subst hK
  exact pg_tup hc h hn hst
/-! ndist -/
def dd (ns : List Int) : List Int := ns.foldl step_dedup []
theorem dd_step (acc : List Int) (x : Int) (h : acc.Nodup) : (step_dedup acc x).Nodup ∧ ∀ y, y ∈ step_dedup acc x ↔ y ∈ acc ∨ y = x := by
  unfold step_dedup
  split
  · rename_i e
    obtain ⟨z, hz, ez⟩ := List.any_eq_true.mp e
    have ez : z = x := by simpa using ez
    subst ez
    exact ⟨h, fun y => ⟨.inl, fun q => q.elim id fun e => e ▸ hz⟩⟩
  · rename_i e
    have hx : x ∉ acc := fun z => e (List.any_eq_true.mpr ⟨x, z, by simp⟩)
    refine ⟨List.nodup_append.mpr ⟨h, by simp, fun a ha b hb => ?_⟩, fun y => by simp⟩
    have : b = x := by simpa using hb
    subst this
    exact fun e => hx (e ▸ ha)
theorem dd_fold : ∀ (ns acc : List Int), acc.Nodup → (ns.foldl step_dedup acc).Nodup ∧ ∀ y, y ∈ ns.foldl step_dedup acc ↔ y ∈ acc ∨ y ∈ ns
  | [], acc, h => ⟨h, fun y => by simp⟩
  | x :: ns, acc, h => by
    obtain ⟨h1, h2⟩ := dd_step acc x h
    obtain ⟨h3, h4⟩ := dd_fold ns _ h1
    refine ⟨h3, fun y => ?_⟩
    rw [List.foldl_cons, h4, h2, List.mem_cons]
    exact or_assoc
theorem dd_nd (ns : List Int) : (dd ns).Nodup := (dd_fold ns [] List.nodup_nil).1
theorem dd_mem (ns : List Int) (y : Int) : y ∈ dd ns ↔ y ∈ ns := by
  have := (dd_fold ns [] List.nodup_nil).2 y
  simp only [List.not_mem_nil, false_or] at this
  exact this
theorem ndist_dd (ns : List Int) : ndist ns = (dd ns).length := rfl
theorem ndist_le (ns : List Int) : ndist ns ≤ ns.length := nodup_le (dd_nd ns) fun x hx => (dd_mem ns x).mp hx
theorem sub_full {α : Type} [DecidableEq α] {l m : List α} (nl : l.Nodup) (hs : ∀ x ∈ l, x ∈ m) (hl : m.length ≤ l.length) : ∀ x ∈ m, x ∈ l := by
  intro x hx
  by_cases h : x ∈ l
  · exact h
  · have := nodup_le (l := x :: l) (D := m) (List.nodup_cons.mpr ⟨h, nl⟩) fun y hy => by
      rcases List.mem_cons.mp hy with e | hy
      · exact e ▸ hx
      · exact hs y hy
    rw [List.length_cons] at this
    omega
/-- fr is finer than cl -/
def Finer (fr cl : List Nat) : Prop := fr.length = cl.length ∧ ∀ (i j : Nat) x y a b, fr[i]? = some x → fr[j]? = some y → cl[i]? = some a → cl[j]? = some b → x = y → a = b
def toI (l : List Nat) : List Int := l.map fun n : Nat => (n : Int)
theorem toI_mem {l : List Nat} {x : Int} : x ∈ toI l ↔ ∃ n ∈ l, (n : Int) = x := List.mem_map
theorem finer_ix {fr cl : List Nat} (h : Finer fr cl) : ∃ f : Int → Int, (∀ c ∈ toI cl, f c ∈ toI fr) ∧ (∀ c ∈ toI cl, ∀ d ∈ toI cl, f c = f d → c = d) ∧ ∀ c ∈ toI cl, ∃ (i : Nat) (a x : Nat), cl[i]? = some a ∧ (a : Int) = c ∧ fr[i]? = some x ∧ (x : Int) = f c := by
  have pick : ∀ c : Int, c ∈ toI cl → ∃ (i : Nat) (a x : Nat), cl[i]? = some a ∧ (a : Int) = c ∧ fr[i]? = some x := by
    intro c hc
    obtain ⟨n, hn, e⟩ := toI_mem.mp hc
    obtain ⟨i, hi, e2⟩ := List.getElem_of_mem hn
    have hi2 : i < fr.length := by rw [h.1]; exact hi
    exact ⟨i, n, fr[i], by rw [List.getElem?_eq_getElem hi, e2], e, List.getElem?_eq_getElem hi2⟩
  refine ⟨fun c => open Classical in if hc : c ∈ toI cl then ((Classical.choose (Classical.choose_spec (Classical.choose_spec (pick c hc))) : Nat) : Int) else 0, ?_, ?_, ?_⟩
  · intro c hc
    simp only [hc, dif_pos]
    have h3 := Classical.choose_spec (Classical.choose_spec (Classical.choose_spec (pick c hc)))
    exact toI_mem.mpr ⟨_, List.mem_of_getElem? h3.2.2, rfl⟩
  · intro c hc d hd e
    simp only [hc, hd, dif_pos] at e
    have h3 := Classical.choose_spec (Classical.choose_spec (Classical.choose_spec (pick c hc)))
    have h4 := Classical.choose_spec (Classical.choose_spec (Classical.choose_spec (pick d hd)))
    have := h.2 _ _ _ _ _ _ h3.2.2 h4.2.2 h3.1 h4.1 (by omega)
    rw [← h3.2.1, ← h4.2.1, this]
  · intro c hc
    simp only [hc, dif_pos]
    have h3 := Classical.choose_spec (Classical.choose_spec (Classical.choose_spec (pick c hc)))
    exact ⟨_, _, _, h3.1, h3.2.1, h3.2.2, rfl⟩
theorem map_nodup_on {α β : Type} {f : α → β} : ∀ {l : List α}, l.Nodup → (∀ a ∈ l, ∀ b ∈ l, f a = f b → a = b) → (l.map f).Nodup
  | [], _, _ => List.nodup_nil
  | x :: l, h, hf => by
    have h1 := List.nodup_cons.mp h
    rw [List.map_cons]
    refine List.nodup_cons.mpr ⟨fun z => ?_, map_nodup_on h1.2 fun a ha b hb => hf a (List.mem_cons_of_mem _ ha) b (List.mem_cons_of_mem _ hb)⟩
    obtain ⟨y, hy, e⟩ := List.mem_map.mp z
    exact h1.1 (hf y (List.mem_cons_of_mem _ hy) x List.mem_cons_self e ▸ hy)
theorem finer_le {fr cl : List Nat} (h : Finer fr cl) : ndist (toI cl) ≤ ndist (toI fr) := by
  obtain ⟨f, h1, h2, _⟩ := finer_ix h
  have := nodup_le (l := (dd (toI cl)).map f) (D := dd (toI fr)) (map_nodup_on (dd_nd _) fun a ha b hb => h2 a ((dd_mem _ _).mp ha) b ((dd_mem _ _).mp hb)) fun x hx => by
    obtain ⟨c, hc, e⟩ := List.mem_map.mp hx
    exact (dd_mem _ _).mpr (e ▸ h1 c ((dd_mem _ _).mp hc))
  rw [List.length_map] at this
  exact this
/-- as many classes: the same classes -/
theorem finer_eq {fr cl : List Nat} (h : Finer fr cl) (e : ndist (toI fr) = ndist (toI cl)) : Finer cl fr := by
  refine ⟨h.1.symm, fun i j a b x y ha hb hx hy eab => ?_⟩
  obtain ⟨f, h1, h2, h3⟩ := finer_ix h
  have full := sub_full (l := (dd (toI cl)).map f) (m := dd (toI fr)) (map_nodup_on (dd_nd _) fun a ha b hb => h2 a ((dd_mem _ _).mp ha) b ((dd_mem _ _).mp hb)) (fun x hx => by
    obtain ⟨c, hc, e⟩ := List.mem_map.mp hx
    exact (dd_mem _ _).mpr (e ▸ h1 c ((dd_mem _ _).mp hc))) (by rw [List.length_map]; exact Nat.le_of_eq e)
  have key : ∀ (i : Nat) a x, cl[i]? = some a → fr[i]? = some x → (x : Int) = f (a : Int) := by
    intro i a x ha hx
    have hxm : (x : Int) ∈ dd (toI fr) := (dd_mem _ _).mpr (toI_mem.mpr ⟨x, List.mem_of_getElem? hx, rfl⟩)
    obtain ⟨c, hc, ec⟩ := List.mem_map.mp (full _ hxm)
    obtain ⟨i', a', x', q1, q2, q3, q4⟩ := h3 c ((dd_mem _ _).mp hc)
    have : a = a' := h.2 i i' x x' a a' hx q3 ha q1 (by omega)
    rw [← ec, ← q2, this]
  have k1 := key i a x ha hx
  have k2 := key j b y hb hy
  rw [eab] at k1
  omega
end PL
namespace PL
open PySem PySem.Spec PyProof.Rows L2
/-- what a state shows: its class, its moves to classes -/
abbrev Sg := Nat × List (Act × Nat)
def mapRow (cl : List Nat) (row : List (Act × Nat)) : List (Act × Nat) := row.map fun p => (p.1, cl.getD p.2 0)
def sgAt (T : Tbl) (cl : List Nat) (s : Nat) : Sg := (cl.getD s 0, mapRow cl (T.rows.getD s []))
def keyRow (r : List (Act × Nat)) : NestedKey := .tup (r.map fun p => .tup [actN p.1, .num (p.2 : Int)])
def keySg (s : Sg) : NestedKey := .tup [.num (s.1 : Int), keyRow s.2]
theorem keyRow_inj : ∀ {a b : List (Act × Nat)}, keyRow a = keyRow b → a = b
  | [], [], _ => rfl
  | [], y :: b, h => by simp [keyRow] at h
  | x :: a, [], h => by simp [keyRow] at h
  | x :: a, y :: b, h => by
    simp only [keyRow, List.map_cons, NestedKey.tup.injEq, List.cons.injEq, NestedKey.num.injEq, and_true] at h
    obtain ⟨⟨h1, h2⟩, h3⟩ := h
    have e1 := actN_inj h1
    have e2 : x.2 = y.2 := by omega
    rw [Prod.ext e1 e2, keyRow_inj (a := a) (b := b) (by simp only [keyRow, h3])]
theorem keySg_inj (a b : Sg) (h : keySg a = keySg b) : a = b := by
  simp only [keySg, NestedKey.tup.injEq, List.cons.injEq, NestedKey.num.injEq, and_true] at h
  exact Prod.ext (by omega) (keyRow_inj h.2)
theorem depth_row : ∀ r : List (Act × Nat), NestedKey.depthAll (r.map fun p => .tup [actN p.1, .num (p.2 : Int)]) ≤ 2
  | [] => by simp [NestedKey.depthAll]
  | x :: r => by
    have h : (NestedKey.tup [actN x.1, .num (x.2 : Int)]).depth ≤ 2 := by simp [NestedKey.depth, NestedKey.depthAll, actN]
    rw [List.map_cons, NestedKey.depthAll]
    exact Nat.max_le.mpr ⟨h, depth_row r⟩
theorem depth_sg (s : Sg) : (keySg s).depth ≤ 8 := by
  have := depth_row s.2
  simp only [keySg, keyRow, NestedKey.depth, NestedKey.depthAll]
  omega
theorem nrs_row {H : Hp} : ∀ {vs : List V} {row : List (Act × Nat)}, Paired (RPr RAct RNat H) vs row → NRs H (row.map fun p => .tup [actN p.1, .num (p.2 : Int)]) vs
  | _, _, .nil => .nil
  | _, _, .cons r t => by
    obtain ⟨q, x, y, rfl, hq, hx, hy⟩ := r
    refine .cons (.tup hq (.cons hx.nr (.cons ?_ .nil))) (nrs_row t)
    cases (show y = V.int _ from hy)
    exact .int _
theorem nr_row {H : Hp} {p : Addr} {vs : List V} {row : List (Act × Nat)} (hp : H p = some (.tup vs)) (h : Paired (RPr RAct RNat H) vs row) : NR H (keyRow row) (.ref p) := .tup hp (nrs_row h)
abbrev sRef : Stmt := topS 7
abbrev nRef : List Str := ["table", "classes", "numbers", "fresh", "state", "row", "sign", "action", "goal"]
theorem scRef : FnScope nRef ["table", "classes"] (defScope sRef) := ⟨rfl, rfl, rfl, by decide +kernel, rfl, by decide +kernel, by decide +kernel⟩
/-- what states show, in the order in which it is met -/
def sgsOf (T : Tbl) (cl : List Nat) (n : Nat) : List Sg := (List.range n).foldl (fun s j => ins s (sgAt T cl j)) []
theorem sgsOf_succ (T : Tbl) (cl : List Nat) (n : Nat) : sgsOf T cl (n + 1) = ins (sgsOf T cl n) (sgAt T cl n) := by
  unfold sgsOf
  rw [List.range_succ, List.foldl_append]
  rfl
structure FrOk (T : Tbl) (cl fr : List Nat) : Prop where
  len : fr.length = T.rows.length
  lt : ∀ x ∈ fr, x < T.rows.length
  iff : ∀ (i j : Nat) x y, fr[i]? = some x → fr[j]? = some y → (x = y ↔ sgAt T cl i = sgAt T cl j)
  num : ∀ (j x : Nat), fr[j]? = some x → ixO (sgsOf T cl T.rows.length) (sgAt T cl j) = some x
theorem FrOk.uniq {T : Tbl} {cl fr fr' : List Nat} (h : FrOk T cl fr) (h' : FrOk T cl fr') : fr = fr' := by
  refine List.ext_getElem? fun j => ?_
  by_cases hj : j < T.rows.length
  · have a := List.getElem?_eq_getElem (l := fr) (i := j) (by rw [h.len]; exact hj)
    have b := List.getElem?_eq_getElem (l := fr') (i := j) (by rw [h'.len]; exact hj)
    have c := h.num j _ a
    rw [h'.num j _ b] at c
    rw [a, b, Option.some.inj c]
  · rw [List.getElem?_eq_none (by rw [h.len]; omega), List.getElem?_eq_none (by rw [h'.len]; omega)]
def spRef : Sp := fun vs H Q _ => ∃ x y T cl, vs = [x, y] ∧ RTbl H x T ∧ T.OK ∧ T.rows.length ≤ 1000 ∧ (∀ r ∈ T.rows, r.length ≤ 100000) ∧ RLst RNat H y cl ∧ cl.length = T.rows.length ∧
  ∀ (H' : Hp) (q : Addr) (fr : List Nat), Same H H' → H q = none → RLst RNat H' (.ref q) fr → FrOk T cl fr → Q (.ref q) H'
section
variable {P : Program} {w : World} {K : PySem.W.Frag} {mg : Str → Option Value} {base : Heap}
theorem ok_ref {f : Addr} {fd : FuncData} {k : Nat} (F : Fun K "refined_classes" "refined_classes" sRef f fd) (mT : mg "tuple" = none) (mL : mg "len" = none) (mE : mg "enumerate" = none) : FnOk P w K mg base CX0 (k + 1) f fd ["table", "classes"] spRef := by
  refine F.ok scRef (fun vs H Q E h => ?_) (fun cdv A outer s0 H vs Q E hr h => ?_)
  · obtain ⟨x, y, T, cl, rfl, _⟩ := h
    rfl
  · obtain ⟨x, y, T, cl, rfl, ⟨pt, vr, ve, rfl, hpt, ⟨pr, vrs, rfl, hpr, prs⟩, _⟩, hok, h1000, hrl, ⟨pc, vcs, rfl, hpc, pcs⟩, hcl, q⟩ := h
    have hu := hu_of hr
    have nd := scRef.nd
    have ecs := pnat pcs
    subst ecs
    refine ⟨_, pss_cons (ps_set (i := 2) nd rfl (.inl rfl) pe_dnewN)
      (pss_cons (ps_set (i := 3) nd rfl (.inl rfl) (pe_lst pa_nil))
      (pss_cons (ps_for PassesOwn.never rfl (pi_enT (by rfl) mE (pa_cons (pe_ix ix_tup (pv 0) pe_int (fun _ _ => rfl)) pa_nil)) (pg_tup rfl (pgs_cons (pg_name (i := 4) nd rfl (.inl rfl)) (pgs_cons (pg_name (i := 5) nd rfl (.inl rfl)) pgs_nil)))
        (pss_cons (ps_set (i := 6) nd rfl (.inl rfl) (pe_tup (pa_cons (pe_ix ix_list (pv 1) (pv 4) (fun _ _ => rfl)) (pa_cons (pe_callTy (cr_tup (K := K) rfl) (by rfl) mT (by decide +kernel) (pa_cons
          (pe_lc (own := [("action", 7), ("goal", 8)]) (g := g2 K 7 8) (by rfl) nd (pi_tup (pv 5)) (blkOk_by (N := nRef) (sc := defScope sRef) (by decide +kernel)) (fun _ _ _ _ _ => pg_tupK rfl rfl (pgs_cons (pg_name (i := 7) nd rfl (Or.inl rfl)) (pgs_cons (pg_name (i := 8) nd rfl (Or.inl rfl)) pgs_nil))) (fun _ _ _ _ _ => pts_nil)
            (fun _ _ _ _ _ => pe_tup (pa_cons (pv 7) (pa_cons (pe_ix (ix_listK (K := K) rfl) (pv 1) (pv 8) (fun _ _ => rfl)) pa_nil)))) pa_nil)) pa_nil))))
        (pss_cons (ps_cut (ps_if (pt_cmpR (op_notinN hr.units) (pv 6) (pv 2) (by rfl)) (pss_one (ps_asg (pe_callB call_lenN (by rfl) mL (by decide +kernel) (pa_cons (pv 2) pa_nil)) (pg_sub (pv 2) (pv 6) (set_N hr.units)))) pss_nil))
        (pss_one (ps_expr (pe_bm PySem.F.plainAttrs_list PySem.F.slot_list_append PySem.F.type_list_append mt_append (pv 3) (pa_cons (pe_nget hr.units (pv 2) (pv 6) (fun _ _ => rfl)) pa_nil)))))))
      (pss_one (ps_ret (pv 3))))), ?_⟩
    intro dn hdn
    refine ⟨Nat.le_of_ble_eq_true rfl, fun df hdf => ?_⟩
    have ndf : df ≠ dn := fun e => by rw [e, upd_same] at hdf; cases hdf
    have h0f : H df = none := by rw [upd_ne ndf] at hdf; exact hdf
    have s0 : Same H (upd (upd H dn (NDo P w dn [])) df (.lst [])) := (same_upd hdn).trans (same_upd hdf)
    refine ⟨.ref pt, rfl, pt, _, _, .ref pr, rfl, rfl, SqT.of (s0 _ _ hpt), atI_nat (j := 1) rfl, pr, vrs, rfl, s0 _ _ hpr,
      for_it walk_en (fun i σ H7 => ∃ kvs sgs fr y4 y5 y6, σ = [some (.ref pt), some (.ref pc), some (.ref dn), some (.ref df), y4, y5, y6, none, none] ∧ Same H H7 ∧ ND P w H7 dn kvs ∧ kvs.map (fun x => (x.1, x.2.2)) = numK keySg sgs 0 ∧ sgs.length ≤ i ∧ sgs = sgsOf T cl i ∧
        H7 df = some (.lst (fr.map fun n : Nat => V.int (n : Int))) ∧ fr.length = i ∧ ∀ (j x : Nat), fr[j]? = some x → ixO sgs (sgAt T cl j) = some x)
      ⟨[], [], [], none, none, none, rfl, s0, ND.nil (by rw [upd_ne ndf.symm, upd_same]; rfl), rfl, Nat.le_refl _, rfl, upd_same, rfl, fun j x h => by cases h⟩ (fun i σ H7 _ ⟨_, _, _, _, _, _, _, sm, _⟩ => sm _ _ hpr) ?_ ?_⟩
    · rintro i yv σ H7 H8 hi ⟨kvs, sgs, fr, y4, y5, y6, rfl, sm, hnd, hk, hsl, hsg, hf, hfl, hix⟩ ⟨tT, y, rfl, nT, rfl, hyi⟩
      obtain ⟨row, hrow, p5, vs5, rfl, hp5, prow⟩ := pget prs hyi
      have hin : i < T.rows.length := (List.getElem?_eq_some_iff.mp hrow).1
      have hrm : row ∈ T.rows := List.mem_of_getElem? hrow
      refine ⟨tT, _, rfl, SqT.of upd_same, rfl, _, _, rfl, _, _, rfl, rfl, ?_⟩
      have sm8 : Same H (upd H7 tT (.tup [.int (i : Nat), .ref p5])) := sm.trans (same_upd nT)
      obtain ⟨c, hc⟩ : ∃ c, cl[i]? = some c := ⟨_, List.getElem?_eq_getElem (by rw [hcl]; exact hin)⟩
      have hclz : ∀ {l : List Nat} {j x : Nat}, l[j]? = some x → (l.map fun n : Nat => V.int (n : Int))[j]? = some (.int (x : Int)) := fun h => by rw [List.getElem?_map, h]; rfl
      refine ⟨_, rfl, _, rfl, pc, _, _, _, rfl, rfl, SqL.of (sm8 _ _ hpc), atI_nat (hclz hc), .ref p5, rfl, p5, rfl, ⟨_, SqT.of (sm8 _ _ hp5)⟩, fun D5 nD5 => lc_it (walk_tup (xs := vs5)) (fun j H9 => Same (upd H7 tT (.tup [.int (i : Nat), .ref p5])) H9 ∧ ∃ ws, H9 D5 = some (.lst ws) ∧ Paired (RPr RAct RNat H9) ws (mapRow cl (row.take j)))
        ⟨same_upd nD5, [], upd_same, .nil⟩ (fun j H9 _ ⟨s9, _⟩ => SqT.of (s9 _ _ (sm8 _ _ hp5))) ?_ ?_⟩
      · rintro j yv H9 H10 hj ⟨s9, ws, hD5, hws⟩ ⟨rfl, hyj⟩
        obtain ⟨pq, hpq, p6, va, vb, rfl, hp6, hva, hvb⟩ := pget prow hyj
        cases (show vb = V.int _ from hvb)
        have s90 := sm8.trans s9
        have hg : pq.2 < cl.length := by rw [hcl]; exact hok.inb row hrm pq (List.mem_of_getElem? hpq)
        obtain ⟨d, hd⟩ : ∃ d, cl[pq.2]? = some d := ⟨_, List.getElem?_eq_getElem hg⟩
        refine ⟨p6, _, rfl, SqT.of (s90 _ _ hp6), rfl, _, _, rfl, _, _, rfl, rfl, rfl, iteT (B := True) ?_⟩
        refine ⟨_, rfl, _, rfl, _, rfl, pc, _, _, _, rfl, rfl, SqL.of (s90 _ _ hpc), atI_nat (hclz hd), Nat.le_of_ble_eq_true rfl, fun t9 nt9 => ?_⟩
        have nD9 : D5 ≠ t9 := ne_of_none hD5 nt9
        have hD9 : (upd H10 t9 (.tup [va, .int (d : Int)])) D5 = some (.lst ws) := by rw [upd_ne nD9]; exact hD5
        have wl : ws.length ≤ 100000 := by
          have h1 := plen hws
          have h2 := hrl row hrm
          unfold mapRow at h1
          rw [List.length_map, List.length_take] at h1
          omega
        have t10 : TSm H10 (upd (upd H10 t9 (.tup [va, .int (d : Int)])) D5 (.lst (ws ++ [.ref t9]))) := (TSm.new nt9).trans (TSm.re hD9 (fun _ => nofun))
        refine ⟨ws, hD9, by rw [sizeLine_eq]; omega, same_re (s9.trans (same_upd nt9)) nD5, _, upd_same, ?_⟩
        have em : mapRow cl (row.take (j + 1)) = mapRow cl (row.take j) ++ [(pq.1, d)] := by
          unfold mapRow
          rw [take_snoc hpq, List.map_append]
          simp [hd]
        rw [em]
        exact psnoc ((RPr.tm RAct.tm RNat.tm).ps t10 hws) ⟨t9, va, _, rfl, by rw [upd_ne nD9.symm, upd_same], RAct.tm _ _ _ _ (Same.ts (s90) |>.trans t10) hva, rfl⟩
      · rintro H9 ⟨s9, ws, hD5, hws⟩
        have et : row.take vs5.length = row := by rw [plen prow]; exact List.take_length
        rw [et] at hws
        refine ⟨D5, ws, rfl, .inl ⟨SqL.of hD5, fun t1 nt1 => ⟨Nat.le_of_ble_eq_true rfl, fun tg ntg => ?_⟩⟩⟩
        obtain ⟨H10, eH10⟩ : ∃ H10, H10 = upd (upd H9 t1 (.tup ws)) tg (.tup [.int (c : Int), .ref t1]) := ⟨_, rfl⟩
        rw [← eH10]
        have s10 : Same H7 H10 := by rw [eH10]; exact (((same_upd nT).trans s9).trans (same_upd nt1)).trans (same_upd ntg)
        have s9' : Same H9 H10 := by rw [eH10]; exact (same_upd nt1).trans (same_upd ntg)
        have esg : sgAt T cl i = (c, mapRow cl row) := by
          unfold sgAt
          simp [hc, hrow]
        have nr : NR H10 (keySg (sgAt T cl i)) (.ref tg) := by
          rw [esg]
          refine .tup (vs := [.int (c : Int), .ref t1]) (by rw [eH10, upd_same]) (.cons (.int _) (.cons (nr_row (vs := ws) ?_ (pmono hws fun _ _ z => RPr.mono RAct.mono RNat.mono _ _ _ _ s9' z)) .nil))
          rw [eH10]
          exact same_upd ntg _ _ upd_same
        have nd10 : ND P w H10 dn kvs := hnd.same s10
        have f10 := s10 _ _ hf
        have kl : kvs.length = sgs.length := by have := congrArg List.length hk; simpa [numK_len] using this
        have nv : ndVal kvs (keySg (sgAt T cl i)) = (ixO sgs (sgAt T cl i)).map fun i : Nat => V.int ((0 + i : Nat) : Int) := by rw [ndVal_V, hk, numK_val keySg_inj]
        have small : sgs.length ≤ 1000 := by omega
        refine ⟨fun σ' H11 => ∃ kv2 sg2, ∃ gi : Nat, σ' = [some (.ref pt), some (.ref pc), some (.ref dn), some (.ref df), some (.int (i : Nat)), some (.ref p5), some (.ref tg), none, none] ∧ Same H H11 ∧ TSm H10 H11 ∧ ND P w H11 dn kv2 ∧ kv2.map (fun x => (x.1, x.2.2)) = numK keySg sg2 0 ∧ sg2.length ≤ i + 1 ∧ (∃ t, sg2 = sgs ++ t) ∧ sg2 = sgsOf T cl (i + 1) ∧
          H11 df = some (.lst (fr.map fun n : Nat => V.int (n : Int))) ∧ ixO sg2 (sgAt T cl i) = some gi, ⟨_, rfl, _, rfl, dn, kvs, _, rfl, nd10, ⟨_, rfl⟩, nr, depth_sg _, _, rfl, ite2 (fun e1 => ?_) (fun e1 => ?_)⟩, ?_⟩
        · have e1 : (!(ndVal kvs (keySg (sgAt T cl i))).isSome) = true := e1
          have hnew : sgAt T cl i ∉ sgs := by
            rw [← ixO_none]
            cases h : ixO sgs (sgAt T cl i) with
            | none => rfl
            | some j => rw [nv, h] at e1; cases e1
          refine ⟨_, rfl, dn, kvs, rfl, nd10, _, rfl, _, rfl, dn, tg, kvs, _, rfl, rfl, nd10, ⟨_, rfl⟩, nr, depth_sg _, by rw [sizeLine_eq]; omega, fun hN => ?_⟩
          have nvn : ndVal kvs (keySg (sgAt T cl i)) = none := by rw [nv, ixO_none.mpr hnew]; rfl
          have dfn : df ≠ dn := ndf
          have eput := ndPut_new (a := tg) (v := .int ((kvs.length : Nat) : Int)) nvn
          refine ⟨ndPut kvs (keySg (sgAt T cl i)) tg (.int ((kvs.length : Nat) : Int)), sgs ++ [sgAt T cl i], sgs.length, rfl, same_re (sm.trans s10) hdn, TSm.re nd10.pt hnd.not_tup, hN, ?_, by rw [List.length_append, List.length_singleton]; omega, ⟨_, rfl⟩, by rw [sgsOf_succ, ← hsg]; unfold ins; rw [if_neg hnew], by rw [upd_ne dfn]; exact f10, ixO_new hnew⟩
          rw [eput, List.map_append, hk, numK_snoc, kl, Nat.zero_add]
          rfl
        · have e1 : ¬ (!(ndVal kvs (keySg (sgAt T cl i))).isSome) = true := e1
          cases hx : ixO sgs (sgAt T cl i) with
          | none => rw [nv, hx] at e1; exact absurd rfl e1
          | some gi => exact ⟨kvs, sgs, gi, rfl, sm.trans s10, TSm.rfl, nd10, hk, by omega, ⟨[], by simp⟩, by rw [sgsOf_succ, ← hsg]; unfold ins; rw [if_pos (List.mem_of_getElem? (ixO_some hx))], f10, hx⟩
        · rintro σ' H11 ⟨kv2, sg2, gi, rfl, sm11, t11, nd11, hk2, hl2, ⟨t, et2⟩, hsg2, hf11, hx2⟩
          have nv2 : ndVal kv2 (keySg (sgAt T cl i)) = some (.int (gi : Int)) := by rw [ndVal_V, hk2, numK_val keySg_inj, hx2, Option.map_some, Nat.zero_add]
          refine ⟨.ref df, rfl, .inl ⟨rfl, _, .inl (.inl hf11)⟩, _, rfl, _, rfl, dn, kv2, _, _, rfl, nd11, ⟨_, rfl⟩, nr.tm t11, depth_sg _, nv2, df, _, _, rfl, rfl, hf11, by rw [List.length_map, sizeLine_eq]; omega, ?_⟩
          refine ⟨kv2, sg2, fr ++ [gi], _, _, _, rfl, same_re sm11 h0f, nd11.tm (TSm.re hf11 (fun _ => nofun)) (upd_ne ndf.symm), hk2, hl2, hsg2, by rw [upd_same, List.map_append]; rfl, by rw [List.length_append, hfl]; rfl, fun j x hj => ?_⟩
          by_cases hji : j < fr.length
          · rw [List.getElem?_append_left hji] at hj
            rw [et2]
            exact ixO_app (hix j x hj)
          · have h1 := (List.getElem?_eq_some_iff.mp hj).1
            rw [List.length_append, List.length_singleton] at h1
            have : j = fr.length := by omega
            subst this
            rw [List.getElem?_append_right (Nat.le_refl _), Nat.sub_self] at hj
            have : gi = x := by simpa using hj
            rw [hfl, ← this]
            exact hx2
    · rintro σ H7 ⟨kvs, sgs, fr, y4, y5, y6, rfl, sm, hnd, hk, hsl, hsg, hf, hfl, hix⟩
      have el : vrs.length = T.rows.length := plen prs
      refine ⟨_, rfl, q H7 df fr sm h0f ⟨df, _, rfl, hf, natp⟩ ⟨by omega, fun x hx => ?_, fun i j x y hi hj => ⟨fun e => ?_, fun e => ?_⟩, fun j x hj => by rw [← el, ← hsg]; exact hix j x hj⟩⟩
      · obtain ⟨j, hj, e⟩ := List.getElem_of_mem hx
        have := hix j x (by rw [List.getElem?_eq_getElem hj, e])
        have := (List.getElem?_eq_some_iff.mp (ixO_some this)).1
        omega
      · have h1 := ixO_some (hix i x hi)
        have h2 := ixO_some (hix j y hj)
        rw [e, h2] at h1
        exact (Option.some.inj h1).symm
      · have h1 := hix i x hi
        have h2 := hix j y hj
        rw [e, h2] at h1
        exact (Option.some.inj h1).symm
end
end PL
namespace PL
open PySem PySem.Spec PyProof.Rows L2
abbrev sAlike : Stmt := topS 8
abbrev nAlike : List Str := ["table", "classes", "count", "fresh", "size", "end"]
theorem scAlike : FnScope nAlike ["table"] (defScope sAlike) := ⟨rfl, rfl, rfl, by decide +kernel, rfl, by decide +kernel, by decide +kernel⟩
def cl0 (T : Tbl) : List Nat := T.ends.map fun b => if b = true then 1 else 0
/-- the classes, round by round -/
def It (T : Tbl) : Nat → List Nat → Prop
  | 0, cl => cl = cl0 T
  | k + 1, fr => ∃ cl, It T k cl ∧ FrOk T cl fr ∧ ndist (toI fr) ≠ ndist (toI cl)
def Fin2 (T : Tbl) (fr : List Nat) : Prop := ∃ k cl, It T k cl ∧ FrOk T cl fr ∧ ndist (toI fr) = ndist (toI cl)
theorem It.fn {T : Tbl} : ∀ {k : Nat} {a b : List Nat}, It T k a → It T k b → a = b
  | 0, a, b, h, h' => by
    have h : a = _ := h
    have h' : b = _ := h'
    rw [h, h']
  | k + 1, a, b, h, h' => by
    obtain ⟨c, h1, h2, _⟩ := h
    obtain ⟨d, h3, h4, _⟩ := h'
    have := h1.fn h3
    subst this
    exact h2.uniq h4
theorem It.at {T : Tbl} : ∀ {n : Nat} {fr : List Nat}, It T n fr → ∀ {i : Nat}, i < n → ∃ cl f, It T i cl ∧ FrOk T cl f ∧ ndist (toI f) ≠ ndist (toI cl)
  | 0, _, _, i, hi => absurd hi (Nat.not_lt_zero i)
  | n + 1, s, h, i, hi => by
    obtain ⟨cl, h1, h2, h3⟩ := h
    by_cases e : i = n
    · subst e
      exact ⟨cl, s, h1, h2, h3⟩
    · exact h1.at (by omega)
theorem Fin2.uniq {T : Tbl} {a b : List Nat} (h : Fin2 T a) (h' : Fin2 T b) : a = b := by
  have key : ∀ {k k' : Nat} {c c' a : List Nat}, It T k c → FrOk T c a → ndist (toI a) = ndist (toI c) → It T k' c' → ¬ k < k' := by
    intro k k' c c' a h1 h2 h3 h4 lt
    obtain ⟨cl, f, q1, q2, q3⟩ := h4.at lt
    have := h1.fn q1
    subst this
    have := h2.uniq q2
    subst this
    exact q3 h3
  obtain ⟨k, c, h1, h2, h3⟩ := h
  obtain ⟨k', c', h4, h5, h6⟩ := h'
  have a1 := key h1 h2 h3 h4
  have a2 := key h4 h5 h6 h1
  have : k = k' := by omega
  subst this
  have := h1.fn h4
  subst this
  exact h2.uniq h5
/-- classes that the moves keep -/
structure Stable (T : Tbl) (fr : List Nat) : Prop where
  len : fr.length = T.rows.length
  lt : ∀ x ∈ fr, x < T.rows.length
  ends : ∀ (i j : Nat) x, fr[i]? = some x → fr[j]? = some x → T.ends.getD i false = T.ends.getD j false
  rows : ∀ (i j : Nat) x, fr[i]? = some x → fr[j]? = some x → mapRow fr (T.rows.getD i []) = mapRow fr (T.rows.getD j [])
  fin : Fin2 T fr
def spAlike : Sp := fun vs H Q _ => ∃ x T, vs = [x] ∧ RTbl H x T ∧ T.OK ∧ T.rows.length ≤ 1000 ∧ (∀ r ∈ T.rows, r.length ≤ 100000) ∧
  ∀ (H' : Hp) (q : Addr) (fr : List Nat), Same H H' → H q = none → RLst RNat H' (.ref q) fr → Stable T fr → Q (.ref q) H'
theorem toI_V (l : List Nat) : (toI l).map V.int = l.map fun n : Nat => V.int (n : Int) := by
  unfold toI
  rw [List.map_map]
  rfl
theorem getD_some {α : Type} {l : List α} {i : Nat} {x d : α} (h : l[i]? = some x) : l.getD i d = x := by simp [h]
theorem some_getD {α : Type} {l : List α} {i : Nat} {d : α} (h : i < l.length) : l[i]? = some (l.getD i d) := by simp [h]
theorem FrOk.finer {T : Tbl} {cl fr : List Nat} (h : FrOk T cl fr) (hl : cl.length = T.rows.length) : Finer fr cl := by
  refine ⟨h.len.trans hl.symm, fun i j x y a b hx hy ha hb e => ?_⟩
  have := (h.iff i j x y hx hy).mp e
  have := congrArg Prod.fst this
  simp only [sgAt] at this
  rwa [getD_some ha, getD_some hb] at this
theorem mapRow_up {cl fr : List Nat} {n : Nat} (hc : cl.length = n) (hf : fr.length = n) (h : Finer cl fr) : ∀ {r r' : List (Act × Nat)}, (∀ p ∈ r, p.2 < n) → (∀ p ∈ r', p.2 < n) → mapRow cl r = mapRow cl r' → mapRow fr r = mapRow fr r'
  | [], [], _, _, _ => rfl
  | [], y :: r', _, _, e => by simp [mapRow] at e
  | x :: r, [], _, _, e => by simp [mapRow] at e
  | x :: r, y :: r', h1, h2, e => by
    have ih := mapRow_up hc hf h (r := r) (r' := r') (fun p hp => h1 p (List.mem_cons_of_mem _ hp)) (fun p hp => h2 p (List.mem_cons_of_mem _ hp))
    simp only [mapRow, List.map_cons, List.cons.injEq, Prod.mk.injEq] at e ih ⊢
    obtain ⟨⟨e1, e2⟩, e3⟩ := e
    have l1 := h1 x List.mem_cons_self
    have l2 := h2 y List.mem_cons_self
    exact ⟨⟨e1, h.2 x.2 y.2 _ _ _ _ (some_getD (by omega)) (some_getD (by omega)) (some_getD (by omega)) (some_getD (by omega)) e2⟩, ih e3⟩
section
variable {P : Program} {w : World} {K : PySem.W.Frag} {mg : Str → Option Value} {base : Heap}
theorem ok_alike {f fR : Addr} {fd fdR : FuncData} {k : Nat} (F : Fun K "alike_classes" "alike_classes" sAlike f fd) (FR : Fun K "refined_classes" "refined_classes" sRef fR fdR) (bR : Binds K fdR ["table", "classes"] []) (gR : mg "refined_classes" = some (.ref fR))
    (mT : mg "tuple" = none) (mL : mg "len" = none) (mE : mg "enumerate" = none) (mS : mg "set" = none) (mI : mg "int" = none) : FnOk P w K mg base CX0 (k + 2) f fd ["table"] spAlike := by
  have GR : FnOk P w K mg base CX0 (k + 1) fR fdR ["table", "classes"] spRef := ok_ref FR mT mL mE
  refine F.ok scAlike (fun vs H Q E h => ?_) (fun cdv A outer s0 H vs Q E hr h => ?_)
  · obtain ⟨x, T, rfl, _⟩ := h
    rfl
  · obtain ⟨x, T, rfl, hT, hok, h1000, hrl, q⟩ := h
    have hu := hu_of hr
    have nd := scAlike.nd
    obtain ⟨pt, vr, ve, rfl, hpt, hvr, ⟨pe, ves, rfl, hpe, pes⟩⟩ := id hT
    refine ⟨_, pss_cons (ps_setLc (i := 1) (own := [("end", 5)]) (g := gName 5) (by rfl) nd rfl rfl (sw_true rfl rfl rfl (by decide +kernel)) (pi_tup (pe_ix ix_tup (pv 0) pe_int (fun _ _ => rfl))) (blkOk_by (N := nAlike) (sc := defScope sAlike) (by decide +kernel)) (fun _ _ _ _ _ => pg_name (i := 5) nd rfl (Or.inl rfl)) (fun _ _ _ _ _ => pts_nil)
        (fun _ _ _ _ _ => pe_callTy call_int1 (by rfl) mI (by decide +kernel) (pa_cons (pv 5) pa_nil)))
      (pss_cons (ps_set (i := 2) nd rfl (.inl rfl) (pe_lenSetN (by rfl) mL (by rfl) mS (pv 1)))
      (pss_one (ps_while PassesOwn.never (pt_val pe_bl)
        (pss_cons (ps_set (i := 3) nd rfl (.inl rfl) (pe_call GR hr (by rfl) gR FR.kp bR .nil pass0 (pa_cons (pv 0) (pa_cons (pv 1) pa_nil))))
        (pss_cons (ps_set (i := 4) nd rfl (.inl rfl) (pe_lenSetN (by rfl) mL (by rfl) mS (pv 3)))
        (pss_cons (ps_if (pt_cmp (pc_eqI (pv 4) (pv 2))) (pss_one (ps_ret (pv 3))) pss_nil)
        (pss_cons (ps_set (i := 1) nd rfl (.inl rfl) (pv 3))
        (pss_one (ps_set (i := 2) nd rfl (.inl rfl) (pv 4)))))))))), ?_⟩
    have eb : ves = T.ends.map V.bl := pbl pes
    subst eb
    have l0 : (cl0 T).length = T.rows.length := by unfold cl0; rw [List.length_map]; exact hok.len
    refine ⟨.ref pt, rfl, pt, _, _, .ref pe, rfl, rfl, SqT.of hpt, atI_nat (j := 2) rfl, pe, rfl, ⟨_, SqT.of hpe⟩, fun D nD => lc_it (walk_tup (xs := T.ends.map V.bl)) (fun i H' => Same H H' ∧ H' D = some (.lst (((cl0 T).take i).map fun n : Nat => V.int (n : Int)))) ⟨same_upd nD, by rw [upd_same]; rfl⟩ (fun i H' _ ⟨s, _⟩ => SqT.of (s _ _ hpe)) ?_ ?_⟩
    · rintro i y H' H'' hi ⟨sm, hD⟩ ⟨rfl, hy⟩
      obtain ⟨b, hb, rfl⟩ : ∃ b, T.ends[i]? = some b ∧ y = .bl b := by
        rw [List.getElem?_map] at hy
        cases e : T.ends[i]? with
        | none => rw [e] at hy; cases hy
        | some n => rw [e] at hy; exact ⟨n, rfl, (Option.some.inj hy).symm⟩
      have hc : (cl0 T)[i]? = some (if b = true then 1 else 0) := by
        show (T.ends.map _)[i]? = _
        rw [List.getElem?_map, hb]
        rfl
      refine ⟨rfl, iteT (B := True) ⟨_, rfl, .inr ⟨b, rfl, _, hD, by rw [List.length_map, List.length_take, sizeLine_eq]; omega, same_re sm nD, ?_⟩⟩⟩
      rw [upd_same, take_snoc hc, List.map_append]
      cases b <;> rfl
    · rintro H1 ⟨sm1, hD⟩
      have et : (cl0 T).take (T.ends.map V.bl).length = cl0 T := by rw [List.length_map]; exact List.take_of_length_le (by unfold cl0; rw [List.length_map]; exact Nat.le_refl _)
      rw [et] at hD
      refine ⟨_, rfl, D, toI (cl0 T), rfl, SqL.of (by rw [toI_V]; exact hD), by unfold toI; rw [List.length_map]; omega, ?_⟩
      refine ⟨fun m σ H' => ∃ y1 cl y3 y4, σ = [some (.ref pt), some y1, some (.int ((ndist (toI cl) : Nat) : Int)), y3, y4, none] ∧ Same H H' ∧ RLst RNat H' y1 cl ∧ cl.length = T.rows.length ∧ (∀ (i j : Nat) x, cl[i]? = some x → cl[j]? = some x → T.ends.getD i false = T.ends.getD j false) ∧ (∃ n, It T n cl) ∧ m = T.rows.length - ndist (toI cl),
        ⟨_, _, cl0 T, _, _, rfl, sm1, ⟨D, _, rfl, hD, natp⟩, l0, fun i j x hi hj => ?_, ⟨0, rfl⟩, rfl⟩, ?_⟩
      · have key : ∀ {i : Nat}, (cl0 T)[i]? = some x → T.ends[i]? = some (decide (x = 1)) := by
          intro i hi
          have hi : (T.ends.map fun b => if b = true then 1 else 0)[i]? = some x := hi
          rw [List.getElem?_map] at hi
          cases e : T.ends[i]? with
          | none => rw [e] at hi; cases hi
          | some b =>
            rw [e] at hi
            have := Option.some.inj hi
            rw [← this]
            cases b <;> rfl
        rw [getD_some (key hi), getD_some (key hj)]
      · rintro m σ H2 ⟨y1, cl, y3, y4, rfl, sm2, hcl, hlen, hends, ⟨nI, hIt⟩, rfl⟩
        refine ⟨_, rfl, iteT ⟨fun σ' H'' => ∃ m', m' < T.rows.length - ndist (toI cl) ∧ _, fun _ _ h => h, ?_⟩⟩
        refine ⟨_, rfl, _, rfl, _, y1, T, cl, rfl, RTbl.mono _ _ _ _ sm2 hT, hok, h1000, hrl, hcl, hlen, fun H3 pf fr sm3 npf hfr hF => ?_⟩
        obtain ⟨pf', vf, ef, hpf, hvf⟩ := id hfr
        cases ef
        have hfn := hF.finer hlen
        have hfl := hF.len
        refine ⟨_, rfl, pf, toI fr, rfl, SqL.of (by rw [toI_V, ← pnat hvf]; exact hpf), by unfold toI; rw [List.length_map]; omega, ?_⟩
        refine ⟨_, rfl, _, rfl, _, _, rfl, rfl, _, rfl, ite2 (fun e => ?_) (fun e => ?_)⟩
        · have e : ((ndist (toI fr) : Nat) : Int) = ((ndist (toI cl) : Nat) : Int) := of_decide_eq_true e
          have hb := finer_eq hfn (by omega)
          refine ⟨_, rfl, q H3 pf fr (sm2.trans sm3) (sm2.free npf) hfr ⟨hfl, hF.lt, fun i j x hi hj => ?_, fun i j x hi hj => ?_, nI, cl, hIt, hF, by omega⟩⟩
          · have li : i < cl.length := by rw [hlen, ← hfl]; exact (List.getElem?_eq_some_iff.mp hi).1
            have lj : j < cl.length := by rw [hlen, ← hfl]; exact (List.getElem?_eq_some_iff.mp hj).1
            have h1 := hfn.2 i j x x _ _ hi hj (some_getD (d := 0) li) (some_getD (d := 0) lj) rfl
            have h2 := some_getD (d := 0) lj
            rw [← h1] at h2
            exact hends i j _ (some_getD li) h2
          · have h1 := (hF.iff i j x x hi hj).mp rfl
            have h2 := congrArg Prod.snd h1
            simp only [sgAt] at h2
            have inr : ∀ {i : Nat} {x : Nat}, fr[i]? = some x → ∀ p ∈ T.rows.getD i [], p.2 < T.rows.length := by
              intro i x hi p hp
              have li : i < T.rows.length := by rw [← hfl]; exact (List.getElem?_eq_some_iff.mp hi).1
              rw [getD_some (List.getElem?_eq_getElem li)] at hp
              exact hok.inb _ (List.getElem_mem li) p hp
            exact mapRow_up hlen hfl hb (inr hi) (inr hj) h2
        · have e : ¬ ((ndist (toI fr) : Nat) : Int) = ((ndist (toI cl) : Nat) : Int) := fun z => e (decide_eq_true z)
          have hle := finer_le hfn
          have hn := ndist_le (toI fr)
          have hn2 : (toI fr).length = T.rows.length := by unfold toI; rw [List.length_map]; exact hfl
          refine ⟨_, rfl, _, rfl, T.rows.length - ndist (toI fr), by omega, _, fr, _, _, rfl, sm2.trans sm3, hfr, hfl, fun i j x hi hj => ?_, ⟨nI + 1, cl, hIt, hF, fun z => e (by omega)⟩, rfl⟩
          have li : i < cl.length := by rw [hlen, ← hfl]; exact (List.getElem?_eq_some_iff.mp hi).1
          have lj : j < cl.length := by rw [hlen, ← hfl]; exact (List.getElem?_eq_some_iff.mp hj).1
          have h1 := hfn.2 i j x x _ _ hi hj (some_getD (d := 0) li) (some_getD (d := 0) lj) rfl
          have h2 := some_getD (d := 0) lj
          rw [← h1] at h2
          exact hends i j _ (some_getD li) h2
end
end PL
namespace PL
open PySem PySem.Spec PyProof.Rows L2
/-- the states of two tables, side by side -/
structure Bis (T T' : Tbl) (R : Nat → Nat → Prop) : Prop where
  first : R 0 0
  lt : ∀ s j, R s j → s < T.rows.length ∧ j < T'.rows.length
  ends : ∀ s j, R s j → T'.ends.getD j false = T.ends.getD s false
  fn : ∀ s j j', R s j → R s j' → j = j'
  none : ∀ s j a, R s j → T.next s a = none → T'.next j a = none
  some : ∀ s j a g, R s j → T.next s a = some g → ∃ g', T'.next j a = some g' ∧ R g g'
def goalRow (fr : List Nat) (row : List (Act × Nat)) : List (Act × List Nat) := row.map fun p => (p.1, [fr.getD p.2 0])
theorem goalRow_of (fr : List Nat) (row : List (Act × Nat)) : goalRow fr row = (mapRow fr row).map fun p => (p.1, [p.2]) := by
  unfold goalRow mapRow
  rw [List.map_map]
  rfl
abbrev RMe : Rl (Act × List Nat) := RPr RAct (RTup RNat)
theorem RMe.tm : MonT RMe := RPr.tm RAct.tm (RTup.tm RNat.tm)
/-- a list at an address apart from two -/
def RI (dm de : Addr) : Rl (List (Act × List Nat)) := fun H v r => ∃ p vs, v = .ref p ∧ p ≠ dm ∧ p ≠ de ∧ H p = some (.lst vs) ∧ Paired (RMe H) vs r
theorem RI.keep {dm de : Addr} {H H' : Hp} {v : V} {r : List (Act × List Nat)} (h : RI dm de H v r) (k : ∀ b o, b ≠ dm → b ≠ de → H b = some o → H' b = some o) (t : TSm H H') : RI dm de H' v r :=
  let ⟨p, vs, e, n1, n2, hp, q⟩ := h
  ⟨p, vs, e, n1, n2, k _ _ n1 n2 hp, RMe.tm.ps t q⟩
theorem mvAt_one (mv : Mv) (n : Nat) : mvAt mv [n] = mv.getD n [] := by simp [mvAt]
def mvF (T : Tbl) (fr : List Nat) (n : Nat) : Mv := (List.range n).foldl (fun m j => m.set (fr.getD j 0) (goalRow fr (T.rows.getD j []))) (List.replicate T.rows.length [])
def esF (T : Tbl) (fr : List Nat) (n : Nat) : List Bool := (List.range n).foldl (fun m j => m.set (fr.getD j 0) (T.ends.getD j false)) (List.replicate T.rows.length false)
theorem mvF_succ (T : Tbl) (fr : List Nat) (n : Nat) : mvF T fr (n + 1) = (mvF T fr n).set (fr.getD n 0) (goalRow fr (T.rows.getD n [])) := by
  unfold mvF
  rw [List.range_succ, List.foldl_append]
  rfl
theorem esF_succ (T : Tbl) (fr : List Nat) (n : Nat) : esF T fr (n + 1) = (esF T fr n).set (fr.getD n 0) (T.ends.getD n false) := by
  unfold esF
  rw [List.range_succ, List.foldl_append]
  rfl
/-- the least table of T is this one -/
def IsLeast (T M : Tbl) : Prop := ∃ fr os, Fin2 T fr ∧ SubOk [fr.getD 0 0] (mvF T fr T.rows.length) (esF T fr T.rows.length) M os
theorem IsLeast.uniq {T M M' : Tbl} (h : IsLeast T M) (h' : IsLeast T M') : M = M' := by
  obtain ⟨fr, os, h1, h2⟩ := h
  obtain ⟨fr', os', h3, h4⟩ := h'
  have := h1.uniq h3
  subst this
  exact h2.uniq h4
abbrev sLeast : Stmt := topS 9
abbrev nLeast : List Str := ["table", "classes", "moves", "ends", "state", "row", "_", "action", "goal"]
theorem scLeast : FnScope nLeast ["table"] (defScope sLeast) := ⟨rfl, rfl, rfl, by decide +kernel, rfl, by decide +kernel, by decide +kernel⟩
def spLeast : Sp := fun vs H Q _ => ∃ x T, vs = [x] ∧ RTbl H x T ∧ T.OK ∧ T.rows.length ≤ 60 ∧ (∀ r ∈ T.rows, r.length ≤ 100000) ∧
  ∀ (H' : Hp) (q : Addr) (T' : Tbl), Same H H' → H q = none → RTbl H' (.ref q) T' → T'.OK → T'.rows.length ≤ T.rows.length → (∀ B, (∀ r ∈ T.rows, r.length ≤ B) → ∀ r ∈ T'.rows, r.length ≤ B) → (∃ R, Bis T T' R) → IsLeast T T' → Q (.ref q) H'
theorem least_in {T : Tbl} {fr : List Nat} {mv : Mv} {es : List Bool} (hok : T.OK) (h60 : T.rows.length ≤ 60) (hrl : ∀ r ∈ T.rows, r.length ≤ 100000) (st : Stable T fr) (ml : mv.length = T.rows.length) (el : es.length = T.rows.length)
    (hm : ∀ s, s < T.rows.length → mv.getD (fr.getD s 0) [] = goalRow fr (T.rows.getD s [])) (hb : ∀ r ∈ mv, ∀ x ∈ r, ∀ g ∈ x.2, g < T.rows.length) :
    SubIn (fun l => ∃ s, s < T.rows.length ∧ l = [fr.getD s 0]) [fr.getD 0 0] mv es T.rows.length := by
  have flt : ∀ s, s < T.rows.length → fr.getD s 0 < T.rows.length := fun s hs => st.lt _ (List.mem_of_getElem? (some_getD (by rw [st.len]; exact hs)))
  refine ⟨⟨⟨0, hok.pos, rfl⟩, by simp⟩, ?_, ?_, ?_, ?_, ?_, by omega, by omega⟩
  · rintro l a m ⟨s, hs, rfl⟩ al ⟨x, hx, ea⟩ am hg
    rw [mvAt_one, hm s hs] at hx
    obtain ⟨p, hp, rfl⟩ := List.mem_map.mp hx
    have hrow : T.rows.getD s [] ∈ T.rows := by rw [getD_some (List.getElem?_eq_getElem hs)]; exact List.getElem_mem hs
    refine ⟨p.2, hok.inb _ hrow p hp, asc_ext am (by simp) fun n => ?_⟩
    rw [hg, List.mem_singleton]
    constructor
    · rintro ⟨x, hx, e1, e2⟩
      rw [mvAt_one, hm s hs] at hx
      obtain ⟨p', hp', rfl⟩ := List.mem_map.mp hx
      have h1 := look_of (hok.nd _ hrow) hp
      have h2 := look_of (hok.nd _ hrow) hp'
      have e3 : p'.1 = p.1 := e1.trans ea.symm
      rw [e3, h1] at h2
      have := Option.some.inj h2
      rw [← this] at e2
      simpa using e2
    · rintro rfl
      refine ⟨(p.1, [fr.getD p.2 0]), ?_, ea, by simp⟩
      rw [mvAt_one, hm s hs]
      exact hx
  · rintro l ⟨s, hs, rfl⟩ n hn
    have : n = fr.getD s 0 := by simpa using hn
    rw [this, ml, el]
    exact ⟨flt s hs, flt s hs⟩
  · intro l x hx g hg
    unfold mvAt at hx
    obtain ⟨r, hr, hx⟩ := List.mem_flatten.mp hx
    obtain ⟨n, _, rfl⟩ := List.mem_map.mp hr
    by_cases hn : n < mv.length
    · rw [getD_some (List.getElem?_eq_getElem hn)] at hx
      have := hb _ (List.getElem_mem hn) x hx g hg
      omega
    · rw [List.getD_eq_getElem?_getD, List.getElem?_eq_none (by omega)] at hx
      cases hx
  · rintro l ⟨s, hs, rfl⟩ _
    rw [mvAt_one, hm s hs]
    unfold goalRow
    rw [List.length_map, getD_some (List.getElem?_eq_getElem hs)]
    exact hrl _ (List.getElem_mem hs)
  · intro L hn hL
    have := nodup_le (D := (List.range T.rows.length).map fun c => [c]) hn fun l hl => by
      obtain ⟨⟨s, hs, rfl⟩, _⟩ := hL l hl
      exact List.mem_map.mpr ⟨_, List.mem_range.mpr (flt s hs), rfl⟩
    rw [List.length_map, List.length_range] at this
    exact this
theorem least_bis {T T' : Tbl} {fr : List Nat} {mv : Mv} {es : List Bool} {os : List (List Nat)} (hok : T.OK) (st : Stable T fr) 
    (hm : ∀ s, s < T.rows.length → mv.getD (fr.getD s 0) [] = goalRow fr (T.rows.getD s [])) (he : ∀ s, s < T.rows.length → es.getD (fr.getD s 0) false = T.ends.getD s false)
    (h : SubOk [fr.getD 0 0] mv es T' os) (hos : ∀ l ∈ os, (∃ s, s < T.rows.length ∧ l = [fr.getD s 0]) ∧ Asc l) : Bis T T' (fun s j => s < T.rows.length ∧ os[j]? = some [fr.getD s 0]) := by
  refine ⟨⟨hok.pos, h.first⟩, fun s j r => ⟨r.1, by rw [h.len]; exact (List.getElem?_eq_some_iff.mp r.2).1⟩, fun s j r => ?_, fun s j j' r r' => ?_, fun s j a r e => ?_, fun s j a g r e => ?_⟩
  · rw [getD_some (h.ends j _ r.2), ← he s r.1]
    simp
  · exact nd_ix h.nd r.2 r'.2
  · obtain ⟨row, h1, h2⟩ := h.row j _ r.2
    unfold Tbl.next
    rw [getD_some h1]
    cases e2 : look row a with
    | none => rfl
    | some g =>
      exfalso
      have h3 := look_mem e2
      obtain ⟨x, hx, ea⟩ := (h2.has a).mp (List.mem_map.mpr ⟨_, h3, rfl⟩)
      rw [mvAt_one, hm s r.1] at hx
      obtain ⟨p, hp, rfl⟩ := List.mem_map.mp hx
      have hrow : T.rows[s]? = some (T.rows.getD s []) := some_getD r.1
      have := hok.next_of hrow hp
      rw [show p.1 = a from ea, e] at this
      cases this
  · obtain ⟨row, h1, h2⟩ := h.row j _ r.2
    obtain ⟨rw0, q1, q2⟩ := Tbl.OK.of_next e
    have er : T.rows.getD s [] = rw0 := getD_some q1
    have hin : (a, [fr.getD g 0]) ∈ mvAt mv [fr.getD s 0] := by
      rw [mvAt_one, hm s r.1, er]
      exact List.mem_map.mpr ⟨_, q2, rfl⟩
    obtain ⟨p, hp, ep⟩ := List.mem_map.mp ((h2.has a).mpr ⟨_, hin, rfl⟩)
    obtain ⟨m, m1, m2, m3⟩ := h2.go p hp
    have hgl := hok.inb _ (List.mem_of_getElem? q1) _ q2
    refine ⟨p.2, ?_, hgl, ?_⟩
    · unfold Tbl.next
      rw [getD_some h1, ← ep]
      exact look_of h2.nd hp
    · rw [m1]
      congr 1
      refine asc_ext m2 (by simp) fun n => ?_
      rw [m3, List.mem_singleton]
      constructor
      · rintro ⟨x, hx, e1, e2⟩
        rw [mvAt_one, hm s r.1, er] at hx
        obtain ⟨p', hp', rfl⟩ := List.mem_map.mp hx
        have w1 := look_of (hok.nd _ (List.mem_of_getElem? q1)) q2
        have w2 := look_of (hok.nd _ (List.mem_of_getElem? q1)) hp'
        rw [show p'.1 = a from e1.trans ep] at w2
        have w1 : look rw0 a = some g := w1
        rw [w1] at w2
        rw [← Option.some.inj w2] at e2
        simpa using e2
      · rintro rfl
        exact ⟨_, hin, ep.symm, by simp⟩
theorem ixN_at {n j : Nat} (hj : j < n) : ixN n (j : Int) = some j := by
  unfold ixN
  rw [if_pos (by omega), if_pos (by omega)]
  rfl
theorem getD_set {α : Type} {l : List α} {i j : Nat} {x d : α} (h : i < l.length) : (l.set i x).getD j d = if i = j then x else l.getD j d := by
  rw [List.getD_eq_getElem?_getD, List.getElem?_set]
  by_cases e : i = j
  · rw [if_pos e, if_pos e, if_pos h]
    rfl
  · rw [if_neg e, if_neg e, List.getD_eq_getElem?_getD]
theorem prep {α β : Type} {R : α → β → Prop} {b : β} : ∀ {l : List α}, (∀ v ∈ l, R v b) → Paired R l (List.replicate l.length b)
  | [], _ => .nil
  | v :: l, h => .cons (h v List.mem_cons_self) (prep fun u hu => h u (List.mem_cons_of_mem _ hu))
theorem Same.keepBut {H H' : Hp} {d : Addr} {o : HO} (s : Same H H') : ∀ b u, b ≠ d → H b = some u → (upd H' d o) b = some u := fun b u h e => by
  rw [upd_ne h]
  exact s _ _ e
section
variable {P : Program} {w : World} {K : PySem.W.Frag} {mg : Str → Option Value} {base : Heap}
theorem ok_least {f fA fS : Addr} {fd fdA fdS : FuncData} {k : Nat} (F : Fun K "least" "least" sLeast f fd) (GA : FnOk P w K mg base CX0 (k + 2) fA fdA ["table"] spAlike) (kA : PySem.W.keepIn K (.ref fA) = true) (bA : Binds K fdA ["table"] []) (gA : mg "alike_classes" = some (.ref fA))
    (GS : FnOk P w K mg base CX0 (k + 2) fS fdS ["start", "moves", "ends", "limit"] spSub) (kS : PySem.W.keepIn K (.ref fS) = true) (bS : Binds K fdS ["start", "moves", "ends", "limit"] []) (gS : mg "subset_table" = some (.ref fS))
    (mL : mg "len" = none) (mE : mg "enumerate" = none) : FnOk P w K mg base CX0 (k + 3) f fd ["table"] spLeast := by
  refine F.ok scLeast (fun vs H Q E h => ?_) (fun cdv A outer s0 H vs Q E hr h => ?_)
  · obtain ⟨x, T, rfl, _⟩ := h
    rfl
  · obtain ⟨x, T, rfl, hT, hok, h60, hrl, q⟩ := h
    have hu := hu_of hr
    have nd := scLeast.nd
    obtain ⟨pt, vr, ve, rfl, hpt, ⟨pr, vrs, rfl, hpr, prs⟩, ⟨pe, ves, rfl, hpe, pes⟩⟩ := id hT
    refine ⟨_, pss_cons (ps_set (i := 1) nd rfl (.inr rfl) (pe_call GA hr (by rfl) gA kA bA .nil pass0 (pa_cons (pv 0) pa_nil)))
      (pss_cons (ps_setLc (i := 2) (own := [("_", 6)]) (g := gName 6) (by rfl) nd rfl rfl (sw_true rfl rfl rfl (by decide +kernel)) (pi_list (pv 1)) (blkOk_by (N := nLeast) (sc := defScope sLeast) (by decide +kernel)) (fun _ _ _ _ _ => pg_name (i := 6) nd rfl (Or.inl rfl)) (fun _ _ _ _ _ => pts_nil)
        (fun _ _ _ _ _ => pe_lst pa_nil))
      (pss_cons (ps_setLc (i := 3) (own := [("_", 6)]) (g := gName 6) (by rfl) nd rfl rfl (sw_true rfl rfl rfl (by decide +kernel)) (pi_list (pv 1)) (blkOk_by (N := nLeast) (sc := defScope sLeast) (by decide +kernel)) (fun _ _ _ _ _ => pg_name (i := 6) nd rfl (Or.inl rfl)) (fun _ _ _ _ _ => pts_nil)
        (fun _ _ _ _ _ => pe_bl))
      (pss_cons (ps_for PassesOwn.never rfl (pi_enT (by rfl) mE (pa_cons (pe_ix ix_tup (pv 0) pe_int (fun _ _ => rfl)) pa_nil)) (pg_tup rfl (pgs_cons (pg_name (i := 4) nd rfl (.inl rfl)) (pgs_cons (pg_name (i := 5) nd rfl (.inl rfl)) pgs_nil)))
        (pss_cons (ps_asg (pe_lc (own := [("action", 7), ("goal", 8)]) (g := g2 K 7 8) (by rfl) nd (pi_tup (pv 5)) (blkOk_by (N := nLeast) (sc := defScope sLeast) (by decide +kernel)) (fun _ _ _ _ _ => pg_tupK rfl rfl (pgs_cons (pg_name (i := 7) nd rfl (Or.inl rfl)) (pgs_cons (pg_name (i := 8) nd rfl (Or.inl rfl)) pgs_nil))) (fun _ _ _ _ _ => pts_nil)
            (fun _ _ _ _ _ => pe_tup (pa_cons (pv 7) (pa_cons (pe_tup (pa_cons (pe_ix (ix_listK (K := K) rfl) (pv 1) (pv 8) (fun _ _ => rfl)) pa_nil)) pa_nil))))
          (pg_sub (pv 2) (pe_ix ix_list (pv 1) (pv 4) (fun _ _ => rfl)) set_list))
        (pss_one (ps_asg (pe_ix ix_tup (pe_ix ix_tup (pv 0) pe_int (fun _ _ => rfl)) (pv 4) (fun _ _ => rfl)) (pg_sub (pv 3) (pe_ix ix_list (pv 1) (pv 4) (fun _ _ => rfl)) set_list)))))
      (pss_one (ps_ret (pe_call GS hr (by rfl) gS kS bS .nil pass0 (pa_cons (pe_tup (pa_cons (pe_ix ix_list (pv 1) pe_int (fun _ _ => rfl)) pa_nil)) (pa_cons (pv 2) (pa_cons (pv 3) (pa_cons (pe_callB call_len_seq (by rfl) mL (by decide +kernel) (pa_cons (pv 1) pa_nil)) pa_nil)))))))))), ?_⟩
    have eb : ves = T.ends.map V.bl := pbl pes
    subst eb
    refine ⟨_, rfl, _, T, rfl, hT, hok, by omega, hrl, fun H1 pf fr s1 npf hfr hst => ?_⟩
    obtain ⟨pf', vf, ef, hpf, hvf⟩ := id hfr
    cases ef
    have evf := pnat hvf
    subst evf
    have fl := hst.len
    have flt : ∀ s, s < T.rows.length → fr.getD s 0 < T.rows.length := fun s hs => hst.lt _ (List.mem_of_getElem? (some_getD (by rw [fl]; exact hs)))
    refine ⟨.ref pf, rfl, pf, rfl, ⟨_, SqL.of hpf⟩, fun dm ndm => lc_it (walk_list (xs := fr.map fun n : Nat => V.int (n : Int))) (fun i H2 => Same H1 H2 ∧ ∃ ws, H2 dm = some (.lst ws) ∧ ws.length = i ∧ ∀ v ∈ ws, ∃ p, v = .ref p ∧ p ≠ dm ∧ H2 p = some (.lst []))
      ⟨same_upd ndm, [], upd_same, rfl, by simp⟩ (fun i H2 _ ⟨s2, _⟩ => SqL.of (s2 _ _ hpf)) ?_ ?_⟩
    · rintro i y H2 H3 hi ⟨s2, ws, hdm, hl, hw⟩ ⟨rfl, hy⟩
      rw [List.length_map] at hi
      refine ⟨rfl, iteT (B := True) ⟨Nat.le_of_ble_eq_true rfl, fun p np => ?_⟩⟩
      have npd : p ≠ dm := fun e => by rw [e, hdm] at np; cases np
      have hdm3 : (upd H3 p (.lst [])) dm = some (.lst ws) := by rw [upd_ne npd.symm]; exact hdm
      refine ⟨ws, hdm3, by rw [sizeLine_eq]; omega, same_re (s2.trans (same_upd np)) ndm, _, upd_same, by rw [List.length_append, hl]; rfl, fun v hv => ?_⟩
      rcases List.mem_append.mp hv with hv | hv
      · obtain ⟨p', e, h1, h2⟩ := hw v hv
        exact ⟨p', e, h1, by rw [upd_ne h1]; exact same_upd np _ _ h2⟩
      · have : v = .ref p := by simpa using hv
        exact ⟨p, this, npd, by rw [upd_ne npd, upd_same]⟩
    rintro H2 ⟨s2, ws, hdm, hwl, hw⟩
    rw [List.length_map, fl] at hwl
    have hpf2 := s2 _ _ hpf
    refine ⟨.ref pf, rfl, pf, rfl, ⟨_, SqL.of hpf2⟩, fun de nde => lc_it (walk_list (xs := fr.map fun n : Nat => V.int (n : Int))) (fun i H3 => Same H2 H3 ∧ H3 de = some (.lst ((List.replicate i false).map V.bl)))
      ⟨same_upd nde, upd_same⟩ (fun i H3 _ ⟨s3, _⟩ => SqL.of (s3 _ _ hpf2)) ?_ ?_⟩
    · rintro i y H3 H4 hi ⟨s3, hde⟩ ⟨rfl, hy⟩
      rw [List.length_map] at hi
      refine ⟨rfl, iteT (B := True) ⟨_, hde, by rw [List.length_map, List.length_replicate, sizeLine_eq]; omega, same_re s3 nde, ?_⟩⟩
      rw [upd_same, List.replicate_succ', List.map_append]
      rfl
    rintro H3 ⟨s3, hde⟩
    rw [List.length_map, fl] at hde
    have dme : de ≠ dm := fun e => by rw [e, hdm] at nde; cases nde
    have h1m : H1 dm = none := ndm
    have h1e : H1 de = none := s2.free nde
    have pri : Paired (RI dm de H3) ws (List.replicate T.rows.length []) := by
      rw [← hwl]
      refine prep fun v hv => ?_
      obtain ⟨p, e, h1, h2⟩ := hw v hv
      exact ⟨p, [], e, h1, (fun z => by rw [z, nde] at h2; cases h2), s3 _ _ h2, .nil⟩
    have s13 : Same H1 H3 := s2.trans s3
    refine ⟨.ref pt, rfl, pt, _, _, .ref pr, rfl, rfl, SqT.of (s13 _ _ (s1 _ _ hpt)), atI_nat (j := 1) rfl, pr, vrs, rfl, s13 _ _ (s1 _ _ hpr),
      for_it walk_en (fun i σ H7 => ∃ mv mvs es y4 y5, σ = [some (.ref pt), some (.ref pf), some (.ref dm), some (.ref de), y4, y5, none, none, none] ∧ Same H1 H7 ∧ H7 dm = some (.lst mvs) ∧ Paired (RI dm de H7) mvs mv ∧ H7 de = some (.lst (es.map V.bl)) ∧ mv.length = T.rows.length ∧ es.length = T.rows.length ∧
        (∀ j, j < i → mv.getD (fr.getD j 0) [] = goalRow fr (T.rows.getD j []) ∧ es.getD (fr.getD j 0) false = T.ends.getD j false) ∧ mv = mvF T fr i ∧ es = esF T fr i ∧ ∀ r ∈ mv, ∀ x ∈ r, ∀ g ∈ x.2, g < T.rows.length)
      ⟨List.replicate T.rows.length [], ws, List.replicate T.rows.length false, none, none, rfl, s13, s3 _ _ hdm, pri, hde, by simp, by simp, fun j hj => absurd hj (Nat.not_lt_zero j), rfl, rfl, ?_⟩ (fun i σ H7 _ ⟨_, _, _, _, _, _, sm, _⟩ => sm _ _ (s1 _ _ hpr)) ?_ ?_⟩
    · intro r hr x hx
      have := List.eq_of_mem_replicate hr
      subst this
      cases hx
    · rintro i yv σ H7 H8 hi ⟨mv, mvs, es, y4, y5, rfl, sm, hmv, pmv, hes, lmv, les, hdone, emv, ees, hbd⟩ ⟨tT, y, rfl, nT, rfl, hyi⟩
      obtain ⟨row, hrow, p5, vs5, rfl, hp5, prow⟩ := pget prs hyi
      have hin : i < T.rows.length := (List.getElem?_eq_some_iff.mp hrow).1
      have hrm : row ∈ T.rows := List.mem_of_getElem? hrow
      refine ⟨tT, _, rfl, SqT.of upd_same, rfl, _, _, rfl, _, _, rfl, rfl, ?_⟩
      have sm8 : Same H1 (upd H7 tT (.tup [.int (i : Nat), .ref p5])) := sm.trans (same_upd nT)
      have sH8 : Same H (upd H7 tT (.tup [.int (i : Nat), .ref p5])) := s1.trans sm8
      have hclz : ∀ {j x : Nat}, fr[j]? = some x → (fr.map fun n : Nat => V.int (n : Int))[j]? = some (.int (x : Int)) := fun h => by rw [List.getElem?_map, h]; rfl
      have hci : fr[i]? = some (fr.getD i 0) := some_getD (by rw [fl]; exact hin)
      have hcl : fr.getD i 0 < T.rows.length := flt i hin
      refine ⟨.ref p5, rfl, p5, rfl, ⟨_, SqT.of (sH8 _ _ hp5)⟩, fun D5 nD5 => lc_it (walk_tup (xs := vs5)) (fun j H9 => Same (upd H7 tT (.tup [.int (i : Nat), .ref p5])) H9 ∧ ∃ ws, H9 D5 = some (.lst ws) ∧ Paired (RMe H9) ws (goalRow fr (row.take j)))
        ⟨same_upd nD5, [], upd_same, .nil⟩ (fun j H9 _ ⟨s9, _⟩ => SqT.of (s9 _ _ (sH8 _ _ hp5))) ?_ ?_⟩
      · rintro j yv H9 H10 hj ⟨s9, ws, hD5, hws⟩ ⟨rfl, hyj⟩
        obtain ⟨pq, hpq, p6, va, vb, rfl, hp6, hva, hvb⟩ := pget prow hyj
        cases (show vb = V.int _ from hvb)
        have s90 := sH8.trans s9
        have hg : pq.2 < fr.length := by rw [fl]; exact hok.inb row hrm pq (List.mem_of_getElem? hpq)
        obtain ⟨d, hd⟩ : ∃ d, fr[pq.2]? = some d := ⟨_, List.getElem?_eq_getElem hg⟩
        refine ⟨p6, _, rfl, SqT.of (s90 _ _ hp6), rfl, _, _, rfl, _, _, rfl, rfl, rfl, iteT (B := True) ?_⟩
        refine ⟨_, rfl, _, rfl, _, rfl, pf, _, _, _, rfl, rfl, SqL.of (s9 _ _ (sm8 _ _ hpf)), atI_nat (hclz hd), Nat.le_of_ble_eq_true rfl, fun t8 nt8 => ⟨Nat.le_of_ble_eq_true rfl, fun t9 nt9 => ?_⟩⟩
        have nD8 : D5 ≠ t8 := ne_of_none hD5 nt8
        have hD8 : (upd H10 t8 (.tup [.int (d : Int)])) D5 = some (.lst ws) := by rw [upd_ne nD8]; exact hD5
        have nD9 : D5 ≠ t9 := ne_of_none hD8 nt9
        have hD9 : (upd (upd H10 t8 (.tup [.int (d : Int)])) t9 (.tup [va, .ref t8])) D5 = some (.lst ws) := by rw [upd_ne nD9]; exact hD8
        have wl : ws.length ≤ 100000 := by
          have h1 := plen hws
          have h2 := hrl row hrm
          unfold goalRow at h1
          rw [List.length_map, List.length_take] at h1
          omega
        have t10 : TSm H10 (upd (upd (upd H10 t8 (.tup [.int (d : Int)])) t9 (.tup [va, .ref t8])) D5 (.lst (ws ++ [.ref t9]))) := ((TSm.new nt8).trans (TSm.new nt9)).trans (TSm.re hD9 (fun _ => nofun))
        refine ⟨ws, hD9, by rw [sizeLine_eq]; omega, same_re ((s9.trans (same_upd nt8)).trans (same_upd nt9)) nD5, _, upd_same, ?_⟩
        have em : goalRow fr (row.take (j + 1)) = goalRow fr (row.take j) ++ [(pq.1, [d])] := by
          unfold goalRow
          rw [take_snoc hpq, List.map_append]
          simp [hd]
        rw [em]
        refine psnoc (RMe.tm.ps t10 hws) ⟨t9, va, _, rfl, by rw [upd_ne nD9.symm, upd_same], RAct.tm _ _ _ _ (Same.ts s90 |>.trans t10) hva, t8, [.int (d : Int)], rfl, ?_, .cons rfl .nil⟩
        rw [upd_ne nD8.symm, upd_ne (ne_of_none upd_same nt9), upd_same]
      · rintro H9 ⟨s9, ws, hD5, hws⟩
        have et : row.take vs5.length = row := by rw [plen prow]; exact List.take_length
        rw [et] at hws
        have s79 : Same H7 H9 := (same_upd nT).trans s9
        have s19 : Same H1 H9 := sm8.trans s9
        have dD5 : D5 ≠ dm := fun e => by rw [e, same_upd nT _ _ hmv] at nD5; cases nD5
        have eD5 : D5 ≠ de := fun e => by rw [e, same_upd nT _ _ hes] at nD5; cases nD5
        refine ⟨_, rfl, _, rfl, _, rfl, pf, _, _, _, rfl, rfl, SqL.of (s19 _ _ hpf), atI_nat (hclz hci), dm, mvs, _, fr.getD i 0, rfl, rfl, s79 _ _ hmv, ixN_at (by rw [plen pmv, lmv]; exact hcl), ?_⟩
        have he1 : (upd H9 dm (.lst (mvs.set (fr.getD i 0) (.ref D5)))) de = some (.lst (es.map V.bl)) := by rw [upd_ne dme]; exact s79 _ _ hes
        have s1a : Same H1 (upd H9 dm (.lst (mvs.set (fr.getD i 0) (.ref D5)))) := same_re s19 h1m
        refine ⟨.ref pt, rfl, pt, _, _, .ref pe, rfl, rfl, SqT.of (s1a _ _ (s1 _ _ hpt)), atI_nat (j := 2) rfl, _, rfl, pe, _, _, .bl (T.ends.getD i false), rfl, rfl, SqT.of (s1a _ _ (s1 _ _ hpe)), atI_nat (by rw [List.getElem?_map, some_getD (d := false) (by rw [hok.len]; exact hin)]; rfl),
          _, rfl, _, rfl, _, rfl, pf, _, _, _, rfl, rfl, SqL.of (s1a _ _ hpf), atI_nat (hclz hci), de, es.map V.bl, _, fr.getD i 0, rfl, rfl, he1, ixN_at (by rw [List.length_map, les]; exact hcl), ?_⟩
        have tF : TSm H9 (upd (upd H9 dm (.lst (mvs.set (fr.getD i 0) (.ref D5)))) de (.lst ((es.map V.bl).set (fr.getD i 0) (.bl (T.ends.getD i false))))) := (TSm.re (s79 _ _ hmv) (fun _ => nofun)).trans (TSm.re he1 (fun _ => nofun))
        have keep : ∀ b o, b ≠ dm → b ≠ de → H9 b = some o → (upd (upd H9 dm (.lst (mvs.set (fr.getD i 0) (.ref D5)))) de (.lst ((es.map V.bl).set (fr.getD i 0) (.bl (T.ends.getD i false))))) b = some o := fun b o h1 h2 h => by rw [upd_ne h2, upd_ne h1]; exact h
        refine ⟨mv.set (fr.getD i 0) (goalRow fr row), mvs.set (fr.getD i 0) (.ref D5), es.set (fr.getD i 0) (T.ends.getD i false), _, _, rfl, same_re s1a h1e, by rw [upd_ne dme.symm, upd_same], ?_, by rw [upd_same, List.map_set], by simpa using lmv, by simpa using les, fun j hj => ?_, by rw [mvF_succ, emv, getD_some hrow], by rw [esF_succ, ees], fun r hr x hx g hg => ?_⟩
        · exact pset (pmono pmv fun v r h => (show RI dm de H9 v r from h.keep (fun b o _ _ h => s79 _ _ h) (Same.ts s79)).keep keep tF) ⟨D5, ws, rfl, dD5, eD5, keep _ _ dD5 eD5 hD5, RMe.tm.ps tF hws⟩
        · rw [getD_set (by rw [lmv]; exact hcl), getD_set (by rw [les]; exact hcl)]
          by_cases e : fr.getD i 0 = fr.getD j 0
          · rw [if_pos e, if_pos e]
            by_cases hji : j = i
            · subst hji
              exact ⟨by rw [getD_some hrow], rfl⟩
            · have hj2 : j < T.rows.length := by omega
              have hcj : fr[j]? = some (fr.getD i 0) := by rw [e]; exact some_getD (by rw [fl]; exact hj2)
              refine ⟨?_, hst.ends i j _ hci hcj⟩
              rw [goalRow_of, goalRow_of, ← hst.rows i j _ hci hcj, getD_some hrow]
          · rw [if_neg e, if_neg e]
            refine hdone j ?_
            have : j ≠ i := fun z => e (by rw [z])
            omega
        · rcases List.mem_or_eq_of_mem_set hr with hr | rfl
          · exact hbd r hr x hx g hg
          · obtain ⟨pq, hpq, rfl⟩ := List.mem_map.mp hx
            have : g = fr.getD pq.2 0 := by simpa using hg
            rw [this]
            exact flt _ (hok.inb row hrm pq hpq)
    · rintro σ H7 ⟨mv, mvs, es, y4, y5, rfl, sm, hmv, pmv, hes, lmv, les, hdone, emv, ees, hbd⟩
      rw [plen prs] at hdone emv ees
      have hin := least_in hok h60 hrl hst lmv les (fun s hs => (hdone s hs).1) hbd
      have h0 : (fr.map fun n : Nat => V.int (n : Int))[0]? = some (.int ((fr.getD 0 0 : Nat) : Int)) := by rw [List.getElem?_map, some_getD (d := 0) (by rw [fl]; exact hok.pos)]; rfl
      refine ⟨_, rfl, pf, _, _, _, rfl, rfl, SqL.of (sm _ _ hpf), atI_nat (j := 0) h0, Nat.le_of_ble_eq_true rfl, fun ts nts => ?_⟩
      have s8 : Same H7 (upd H7 ts (.tup [.int ((fr.getD 0 0 : Nat) : Int)])) := same_upd nts
      have fl2 : ((fr.map fun n : Nat => V.int (n : Int)).length : Int) = (T.rows.length : Int) := by rw [List.length_map, fl]
      refine ⟨_, rfl, _, rfl, _, rfl, pf, _, rfl, .inl (SqL.of (s8 _ _ (sm _ _ hpf))), ?_⟩
      rw [fl2]
      refine ⟨_, _, _, [fr.getD 0 0], mv, es, T.rows.length, _, rfl, ⟨ts, _, rfl, upd_same, .cons rfl .nil⟩, ⟨dm, mvs, rfl, s8 _ _ hmv, pmono pmv fun v r ⟨p, vs, e, _, _, hp, hq⟩ => ⟨p, vs, e, s8 _ _ hp, RMe.tm.ps (Same.ts s8) hq⟩⟩, ⟨de, rfl, .inl (s8 _ _ hes)⟩, hin, fun H' q' T' os sF nq hT' hsub hos => ?_⟩
      have sA : Same H (upd H7 ts (.tup [.int ((fr.getD 0 0 : Nat) : Int)])) := (s1.trans sm).trans s8
      refine q H' q' T' (sA.trans sF) (sA.free nq) hT' hsub.ok (by rw [hsub.len]; exact hin.few os hsub.nd hos) (fun B hB r hr => ?_) ⟨fun s j => s < T.rows.length ∧ os[j]? = some [fr.getD s 0], least_bis hok hst (fun s hs => (hdone s hs).1) (fun s hs => (hdone s hs).2) hsub hos⟩ ⟨fr, os, hst.fin, by rw [← emv, ← ees]; exact hsub⟩
      obtain ⟨l, hl, h1⟩ := hsub.rowlen r hr
      obtain ⟨⟨s, hs, rfl⟩, _⟩ := hos l hl
      rw [mvAt_one, (hdone s hs).1] at h1
      unfold goalRow at h1
      rw [List.length_map, getD_some (List.getElem?_eq_getElem hs)] at h1
      exact Nat.le_trans h1 (hB _ (List.getElem_mem hs))
end
end PL
namespace PL
open PySem PySem.Spec PyProof.Rows L2
/-- where a party may take the table to be that has seen w -/
def Kn (T : Tbl) (p : Str) (w : List Act) (s : Nat) : Prop := ∃ r, T.walk r = some s ∧ vw r p = w
theorem walk_snoc (T : Tbl) (r : List Act) (a : Act) : T.walk (r ++ [a]) = (T.walk r).bind fun s => T.next s a := by
  unfold Tbl.walk
  rw [Tbl.walkF_app]
  congr 1
  funext s
  simp only [Tbl.walkF]
  cases T.next s a <;> rfl
theorem vw_app (r u : List Act) (p : Str) : vw (r ++ u) p = vw r p ++ vw u p := List.filter_append ..
theorem vw_none {u : List Act} {p : Str} (h : ∀ a ∈ u, conc a p = false) : vw u p = [] := by
  unfold vw
  rw [List.filter_eq_nil_iff]
  intro a ha
  rw [h a ha]
  exact Bool.false_ne_true
theorem vw_none' {u : List Act} {p : Str} (h : vw u p = []) : ∀ a ∈ u, conc a p = false := by
  intro a ha
  unfold vw at h
  rw [List.filter_eq_nil_iff] at h
  have := h a ha
  simpa using this
theorem kn_nil {T : Tbl} {p : Str} {s : Nat} : Kn T p [] s ↔ UR T p 0 s :=
  ⟨fun ⟨r, h1, h2⟩ => ⟨r, vw_none' h2, h1⟩, fun ⟨u, h1, h2⟩ => ⟨u, h2, vw_none h1⟩⟩
theorem vw_split {p : Str} {w : List Act} {a : Act} : ∀ {r : List Act}, vw r p = w ++ [a] → ∃ r1 u, r = r1 ++ a :: u ∧ vw r1 p = w ∧ conc a p = true ∧ ∀ b ∈ u, conc b p = false := by
  intro r h
  unfold vw at h
  rw [List.filter_eq_append_iff] at h
  obtain ⟨l1, l2, rfl, h1, h2⟩ := h
  rw [List.filter_eq_cons_iff] at h2
  obtain ⟨m1, m2, rfl, h3, h4, h5⟩ := h2
  refine ⟨l1 ++ m1, m2, by simp, ?_, h4, vw_none' h5⟩
  unfold vw
  rw [List.filter_append, h1, List.filter_eq_nil_iff.mpr h3, List.append_nil]
theorem kn_snoc {T : Tbl} {p : Str} {w : List Act} {a : Act} {n : Nat} : Kn T p (w ++ [a]) n ↔ ∃ s g, Kn T p w s ∧ conc a p = true ∧ T.next s a = some g ∧ UR T p g n := by
  constructor
  · rintro ⟨r, h1, h2⟩
    obtain ⟨r1, u, rfl, h3, h4, h5⟩ := vw_split h2
    unfold Tbl.walk at h1
    rw [Tbl.walkF_app] at h1
    cases e : T.walkF 0 r1 with
    | none => rw [e] at h1; cases h1
    | some s =>
      rw [e] at h1
      simp only [Option.bind_some, Tbl.walkF] at h1
      cases e2 : T.next s a with
      | none => rw [e2] at h1; cases h1
      | some g =>
        rw [e2] at h1
        exact ⟨s, g, ⟨r1, e, h3⟩, h4, e2, u, h5, h1⟩
  · rintro ⟨s, g, ⟨r, h1, h2⟩, h3, h4, u, h5, h6⟩
    refine ⟨r ++ a :: u, ?_, ?_⟩
    · unfold Tbl.walk at h1 ⊢
      rw [Tbl.walkF_app, h1]
      simp only [Option.bind_some, Tbl.walkF, h4]
      exact h6
    · rw [vw_app, h2]
      congr 1
      unfold vw
      rw [List.filter_cons_of_pos (p := fun a => conc a p) h3]
      congr 1
      exact vw_none h5
structure Reach (T : Tbl) (p : Str) (re : List (List Nat)) : Prop where
  len : re.length = T.rows.length
  ok : ∀ s, s < T.rows.length → Asc (re.getD s []) ∧ ∀ g, g ∈ re.getD s [] ↔ UR T p s g
theorem Reach.uniq {T : Tbl} {p : Str} {a b : List (List Nat)} (h : Reach T p a) (h' : Reach T p b) : a = b := by
  refine List.ext_getElem? fun j => ?_
  by_cases hj : j < T.rows.length
  · rw [some_getD (d := []) (by rw [h.len]; exact hj), some_getD (l := b) (d := []) (by rw [h'.len]; exact hj)]
    congr 1
    exact asc_ext (h.ok j hj).1 (h'.ok j hj).1 fun x => ((h.ok j hj).2 x).trans ((h'.ok j hj).2 x).symm
  · rw [List.getElem?_eq_none (by rw [h.len]; omega), List.getElem?_eq_none (by rw [h'.len]; omega)]
/-- the moves that a party sees -/
def seenRow (p : Str) (re : List (List Nat)) (row : List (Act × Nat)) : List (Act × List Nat) := (row.filter fun x => conc x.1 p).map fun x => (x.1, re.getD x.2 [])
/-- the machine of p is this one -/
def IsMach (T : Tbl) (p : Str) (M : Tbl) : Prop := ∃ re T1 os, Reach T p re ∧ SubOk (re.getD 0 []) (T.rows.map (seenRow p re)) T.ends T1 os ∧ IsLeast T1 M
theorem IsMach.uniq {T M M' : Tbl} {p : Str} (h : IsMach T p M) (h' : IsMach T p M') : M = M' := by
  obtain ⟨re, T1, os, h1, h2, h3⟩ := h
  obtain ⟨re', T1', os', h4, h5, h6⟩ := h'
  have := h1.uniq h4
  subst this
  have := h2.uniq h5
  subst this
  exact h3.uniq h6
/-- a machine of a party: its states are what the party may take the table to be in -/
structure Mach (T : Tbl) (p : Str) (M : Tbl) : Prop where
  ok : M.OK
  len : M.rows.length ≤ 60
  rowlen : ∀ r ∈ M.rows, r.length ≤ 6000
  kn : ∀ w j, M.walk w = some j → ∃ s, Kn T p w s
  of : ∀ w s, Kn T p w s → ∃ j, M.walk w = some j
  ends : ∀ w j, M.walk w = some j → (M.ends.getD j false = true ↔ ∃ s, Kn T p w s ∧ T.ends.getD s false = true)
  same : ∀ w w' j j', M.walk w = some j → M.walk w' = some j' → (∀ s, Kn T p w s ↔ Kn T p w' s) → j = j'
  is : IsMach T p M
def Few (T : Tbl) (p : Str) : Prop := ∀ L : List (List Nat), L.Nodup → (∀ l ∈ L, Asc l ∧ ∃ w, ∀ s, s ∈ l ↔ Kn T p w s) → L.length ≤ 60
theorem seen_goal {T : Tbl} {p : Str} {re : List (List Nat)} (hok : T.OK) (hre : Reach T p re) {w : List Act} {l : List Nat} (hl : ∀ s, s ∈ l ↔ Kn T p w s) (hlt : ∀ s ∈ l, s < T.rows.length) (a : Act) :
    (∀ n, Goal (T.rows.map (seenRow p re)) l a n ↔ Kn T p (w ++ [a]) n) ∧ (Has (T.rows.map (seenRow p re)) l a ↔ ∃ n, Kn T p (w ++ [a]) n) := by
  have mem : ∀ x, x ∈ mvAt (T.rows.map (seenRow p re)) l ↔ ∃ s ∈ l, ∃ g, T.next s x.1 = some g ∧ conc x.1 p = true ∧ x.2 = re.getD g [] := by
    intro x
    unfold mvAt
    rw [List.mem_flatten]
    constructor
    · rintro ⟨r, hr, hx⟩
      obtain ⟨s, hs, rfl⟩ := List.mem_map.mp hr
      have hrow : T.rows[s]? = some (T.rows.getD s []) := some_getD (hlt s hs)
      have e : (T.rows.map (seenRow p re)).getD s [] = seenRow p re (T.rows.getD s []) := getD_some (by rw [List.getElem?_map, hrow]; rfl)
      rw [e] at hx
      obtain ⟨y, hy, rfl⟩ := List.mem_map.mp hx
      obtain ⟨hy1, hy2⟩ := List.mem_filter.mp hy
      exact ⟨s, hs, y.2, hok.next_of hrow hy1, hy2, rfl⟩
    · rintro ⟨s, hs, g, h1, h2, h3⟩
      obtain ⟨row, q1, q2⟩ := Tbl.OK.of_next h1
      refine ⟨_, List.mem_map.mpr ⟨s, hs, rfl⟩, ?_⟩
      have e : (T.rows.map (seenRow p re)).getD s [] = seenRow p re row := getD_some (by rw [List.getElem?_map, q1]; rfl)
      rw [e]
      exact List.mem_map.mpr ⟨(x.1, g), List.mem_filter.mpr ⟨q2, h2⟩, by rw [← h3]⟩
  constructor
  · intro n
    rw [kn_snoc]
    constructor
    · rintro ⟨x, hx, rfl, hn⟩
      obtain ⟨s, hs, g, h1, h2, h3⟩ := (mem x).mp hx
      refine ⟨s, g, (hl s).mp hs, h2, h1, ?_⟩
      rw [h3] at hn
      exact ((hre.ok g (hok.inb.next h1)).2 n).mp hn
    · rintro ⟨s, g, h1, h2, h3, h4⟩
      exact ⟨(a, re.getD g []), (mem _).mpr ⟨s, (hl s).mpr h1, g, h3, h2, rfl⟩, rfl, ((hre.ok g (hok.inb.next h3)).2 n).mpr h4⟩
  · constructor
    · rintro ⟨x, hx, rfl⟩
      obtain ⟨s, hs, g, h1, h2, h3⟩ := (mem x).mp hx
      exact ⟨g, kn_snoc.mpr ⟨s, g, (hl s).mp hs, h2, h1, UR.self⟩⟩
    · rintro ⟨n, hn⟩
      obtain ⟨s, g, h1, h2, h3, h4⟩ := kn_snoc.mp hn
      exact ⟨(a, re.getD g []), (mem _).mpr ⟨s, (hl s).mpr h1, g, h3, h2, rfl⟩, rfl⟩
theorem kn_lt {T : Tbl} (hok : T.OK) {p : Str} {w : List Act} {s : Nat} (h : Kn T p w s) : s < T.rows.length := by
  obtain ⟨r, h, _⟩ := h
  have : ∀ (r : List Act) (t s : Nat), t < T.rows.length → T.walkF t r = some s → s < T.rows.length := by
    intro r
    induction r with
    | nil => intro t s ht e; cases e; exact ht
    | cons a r ih =>
      intro t s ht e
      simp only [Tbl.walkF] at e
      cases h : T.next t a with
      | none => rw [h] at e; cases e
      | some g => rw [h] at e; exact ih g s (hok.inb.next h) e
  exact this r 0 s hok.pos h
theorem mvAt_len {mv : Mv} {B : Nat} (h : ∀ r ∈ mv, r.length ≤ B) : ∀ l : List Nat, (mvAt mv l).length ≤ l.length * B
  | [] => by simp [mvAt]
  | n :: l => by
    have ih := mvAt_len h l
    have e : mvAt mv (n :: l) = mv.getD n [] ++ mvAt mv l := by simp [mvAt]
    have h1 : (mv.getD n []).length ≤ B := by
      by_cases hn : n < mv.length
      · rw [getD_some (List.getElem?_eq_getElem hn)]
        exact h _ (List.getElem_mem hn)
      · rw [List.getD_eq_getElem?_getD, List.getElem?_eq_none (by omega)]
        exact Nat.zero_le _
    rw [e, List.length_append, List.length_cons, Nat.succ_mul]
    omega
def KP (T : Tbl) (p : Str) (l : List Nat) : Prop := ∃ w, ∀ s, s ∈ l ↔ Kn T p w s
theorem erased_in {T : Tbl} {p : Str} {re : List (List Nat)} (hok : T.OK) (h60 : T.rows.length ≤ 60) (hrl : ∀ r ∈ T.rows, r.length ≤ 100) (hre : Reach T p re) (few : Few T p) :
    SubIn (KP T p) (re.getD 0 []) (T.rows.map (seenRow p re)) T.ends 300 := by
  have hlt : ∀ l, KP T p l → ∀ s ∈ l, s < T.rows.length := fun l ⟨w, hw⟩ s hs => kn_lt hok ((hw s).mp hs)
  refine ⟨⟨⟨[], fun s => ?_⟩, (hre.ok 0 hok.pos).1⟩, ?_, ?_, ?_, ?_, ?_, by omega, by rw [hok.len]; omega⟩
  · rw [kn_nil]
    exact (hre.ok 0 hok.pos).2 s
  · rintro l a m ⟨w, hw⟩ al ha am hm
    exact ⟨w ++ [a], fun s => (hm s).trans ((seen_goal hok hre hw (hlt l ⟨w, hw⟩) a).1 s)⟩
  · intro l hl n hn
    have := hlt l hl n hn
    rw [List.length_map, hok.len]
    exact ⟨this, this⟩
  · intro l x hx g hg
    unfold mvAt at hx
    obtain ⟨r, hr, hx⟩ := List.mem_flatten.mp hx
    obtain ⟨n, _, rfl⟩ := List.mem_map.mp hr
    by_cases hn : n < T.rows.length
    · have e : (T.rows.map (seenRow p re)).getD n [] = seenRow p re T.rows[n] := getD_some (by rw [List.getElem?_map, List.getElem?_eq_getElem hn]; rfl)
      rw [e] at hx
      obtain ⟨y, hy, rfl⟩ := List.mem_map.mp hx
      have hy1 := (List.mem_filter.mp hy).1
      have hgl := hok.inb _ (List.getElem_mem hn) y hy1
      have := ((hre.ok _ hgl).2 g).mp hg
      obtain ⟨u, _, hu⟩ := this
      have h0 : ∀ (r : List Act) (t s : Nat), t < T.rows.length → T.walkF t r = some s → s < T.rows.length := by
        intro r
        induction r with
        | nil => intro t s ht e; cases e; exact ht
        | cons a r ih =>
          intro t s ht e
          simp only [Tbl.walkF] at e
          cases h : T.next t a with
          | none => rw [h] at e; cases e
          | some g => rw [h] at e; exact ih g s (hok.inb.next h) e
      have := h0 u y.2 g hgl hu
      omega
    · rw [List.getD_eq_getElem?_getD, List.getElem?_eq_none (by rw [List.length_map]; omega)] at hx
      cases hx
  · intro l hl al
    have hb : ∀ r ∈ T.rows.map (seenRow p re), r.length ≤ 100 := fun r hr => by
      obtain ⟨r0, h0, rfl⟩ := List.mem_map.mp hr
      unfold seenRow
      rw [List.length_map]
      exact Nat.le_trans (List.length_filter_le _ _) (hrl r0 h0)
    have h1 := mvAt_len hb l
    have h2 := lt_len al.nodup (n := 60) fun s hs => by have := hlt l hl s hs; omega
    have h3 : l.length * 100 ≤ 60 * 100 := Nat.mul_le_mul_right 100 h2
    omega
  · intro L hn hL
    have := few L hn fun l hl => ⟨(hL l hl).2, (hL l hl).1⟩
    omega
/-- the subset table carries what the party may think -/
theorem sub_walk {T T1 : Tbl} {p : Str} {re os : List (List Nat)} (hok : T.OK) (hre : Reach T p re) (h : SubOk (re.getD 0 []) (T.rows.map (seenRow p re)) T.ends T1 os) : ∀ (n : Nat) (w : List Act), w.length = n →
    (∀ i, T1.walk w = some i → ∃ l, os[i]? = some l ∧ (∃ s, s ∈ l) ∧ ∀ s, s ∈ l ↔ Kn T p w s) ∧ (T1.walk w = none → ∀ s, ¬ Kn T p w s) := by
  intro n
  induction n with
  | zero =>
    intro w hw
    have : w = [] := List.eq_nil_of_length_eq_zero hw
    subst this
    refine ⟨fun i hi => ?_, fun hi => by cases hi⟩
    cases (show some 0 = some i from hi)
    refine ⟨_, h.first, ⟨0, ((hre.ok 0 hok.pos).2 0).mpr UR.self⟩, fun s => ?_⟩
    rw [kn_nil]
    exact (hre.ok 0 hok.pos).2 s
  | succ n ih =>
    intro w hw
    obtain ⟨w', a, rfl⟩ : ∃ w' a, w = w' ++ [a] := by
      have hne : w ≠ [] := fun e => by rw [e] at hw; cases hw
      exact ⟨w.dropLast, w.getLast hne, (List.dropLast_concat_getLast hne).symm⟩
    rw [List.length_append, List.length_singleton] at hw
    obtain ⟨ih1, ih2⟩ := ih w' (by omega)
    rw [walk_snoc]
    cases hw' : T1.walk w' with
    | none =>
      refine ⟨(fun i hi => by cases hi), fun _ s hs => ?_⟩
      obtain ⟨s', _, h1, _⟩ := kn_snoc.mp hs
      exact ih2 hw' s' h1
    | some i =>
      obtain ⟨l, hl, _, hk⟩ := ih1 i hw'
      obtain ⟨row, r1, r2⟩ := h.row i l hl
      have hlt : ∀ s ∈ l, s < T.rows.length := fun s hs => kn_lt hok ((hk s).mp hs)
      obtain ⟨g1, g2⟩ := seen_goal hok hre hk hlt a
      have en : T1.next i a = look row a := by unfold Tbl.next; rw [getD_some r1]
      simp only [Option.bind_some]
      rw [en]
      constructor
      · intro g hg
        have hm := look_mem hg
        obtain ⟨m, m1, _, m3⟩ := r2.go _ hm
        have hh := (r2.has a).mp (List.mem_map.mpr ⟨_, hm, rfl⟩)
        obtain ⟨n0, hn0⟩ := g2.mp hh
        exact ⟨m, m1, ⟨n0, (m3 n0).mpr ((g1 n0).mpr hn0)⟩, fun s => (m3 s).trans (g1 s)⟩
      · intro hg s hs
        have hh := g2.mpr ⟨s, hs⟩
        obtain ⟨q, hq, e⟩ := List.mem_map.mp ((r2.has a).mpr hh)
        have := look_of r2.nd hq
        rw [e, hg] at this
        cases this
theorem bis_walk {T M : Tbl} {R : Nat → Nat → Prop} (b : Bis T M R) : ∀ (w : List Act) (s j : Nat), R s j → (T.walkF s w = none → M.walkF j w = none) ∧ ∀ i, T.walkF s w = some i → ∃ k, M.walkF j w = some k ∧ R i k
  | [], s, j, r => by
    refine ⟨fun h => ?_, fun i hi => ?_⟩
    · cases h
    · cases hi
      exact ⟨j, rfl, r⟩
  | a :: w, s, j, r => by
    simp only [Tbl.walkF]
    cases h : T.next s a with
    | none =>
      rw [b.none s j a r h]
      exact ⟨fun _ => rfl, (fun i hi => by cases hi)⟩
    | some g =>
      obtain ⟨g', h1, h2⟩ := b.some s j a g r h
      rw [h1]
      exact bis_walk b w g g' h2
theorem mach_of {T T1 M : Tbl} {p : Str} {re os : List (List Nat)} {R : Nat → Nat → Prop} (hok : T.OK) (hre : Reach T p re) (h : SubOk (re.getD 0 []) (T.rows.map (seenRow p re)) T.ends T1 os) (ha : ∀ l ∈ os, Asc l) (b : Bis T1 M R) (il : IsLeast T1 M) (mok : M.OK)
    (ml : M.rows.length ≤ 60) (mr : ∀ r ∈ M.rows, r.length ≤ 6000) : Mach T p M := by
  have sw := fun w => sub_walk hok hre h w.length w rfl
  have bw := fun w => bis_walk b w 0 0 b.first
  have up : ∀ w j, M.walk w = some j → ∃ i, T1.walk w = some i ∧ R i j := fun w j hj => by
    cases e : T1.walk w with
    | none => rw [show M.walk w = none from (bw w).1 e] at hj; cases hj
    | some i =>
      obtain ⟨k, h1, h2⟩ := (bw w).2 i e
      rw [show M.walk w = some k from h1] at hj
      cases hj
      exact ⟨i, rfl, h2⟩
  refine ⟨mok, ml, mr, fun w j hj => ?_, fun w s hs => ?_, fun w j hj => ?_, fun w w' j j' hj hj' hs => ?_, re, T1, os, hre, h, il⟩
  · obtain ⟨i, h1, _⟩ := up w j hj
    obtain ⟨l, _, ⟨s, h2⟩, h3⟩ := (sw w).1 i h1
    exact ⟨s, (h3 s).mp h2⟩
  · cases e : T1.walk w with
    | none => exact absurd hs ((sw w).2 e s)
    | some i =>
      obtain ⟨k, h1, _⟩ := (bw w).2 i e
      exact ⟨k, h1⟩
  · obtain ⟨i, h1, h2⟩ := up w j hj
    obtain ⟨l, hl, _, h3⟩ := (sw w).1 i h1
    rw [b.ends i j h2, getD_some (h.ends i l hl), List.any_eq_true]
    exact ⟨fun ⟨s, q1, q2⟩ => ⟨s, (h3 s).mp q1, q2⟩, fun ⟨s, q1, q2⟩ => ⟨s, (h3 s).mpr q1, q2⟩⟩
  · obtain ⟨i, h1, h2⟩ := up w j hj
    obtain ⟨i', h1', h2'⟩ := up w' j' hj'
    obtain ⟨l, hl, _, h3⟩ := (sw w).1 i h1
    obtain ⟨l', hl', _, h3'⟩ := (sw w').1 i' h1'
    have el : l = l' := asc_ext (ha l (List.mem_of_getElem? hl)) (ha l' (List.mem_of_getElem? hl')) fun s => (h3 s).trans ((hs s).trans (h3' s).symm)
    subst el
    have := nd_ix h.nd hl hl'
    subst this
    exact b.fn _ _ _ h2 h2'
end PL
namespace PL
open PySem PySem.Spec PyProof.Rows L2
abbrev sEra : Stmt := topS 19
abbrev nEra : List Str := ["table", "party", "seen", "reach", "moves", "row", "state", "action", "goal"]
theorem scEra : FnScope nEra ["table", "party", "seen"] (defScope sEra) := ⟨rfl, rfl, rfl, by decide +kernel, rfl, by decide +kernel, by decide +kernel⟩
def spEra : Sp := fun vs H Q _ => ∃ x T p, vs = [x, .str p, .bl true] ∧ RTbl H x T ∧ T.OK ∧ T.rows.length ≤ 60 ∧ (∀ r ∈ T.rows, r.length ≤ 100) ∧ Few T p ∧
  ∀ (H' : Hp) (q : Addr) (M : Tbl), Same H H' → H q = none → RTbl H' (.ref q) M → Mach T p M → Q (.ref q) H'
theorem seenRow_snoc {p : Str} {re : List (List Nat)} {r : List (Act × Nat)} {x : Act × Nat} : seenRow p re (r ++ [x]) = seenRow p re r ++ if conc x.1 p = true then [(x.1, re.getD x.2 [])] else [] := by
  unfold seenRow
  rw [filter_snoc, List.map_append]
  congr 1
  by_cases h : conc x.1 p = true
  · rw [if_pos h, if_pos h]
    rfl
  · rw [if_neg h, if_neg h]
    rfl
section
variable {P : Program} {w : World} {K : PySem.W.Frag} {mg : Str → Option Value} {base : Heap}
theorem ok_era {f fU fC fL fS : Addr} {fd fdU fdC fdL fdS : FuncData} {k : Nat} {t300 : Tok} (F : Fun K "erased" "erased" sEra f fd)
    (GU : FnOk P w K mg base CX0 k fU fdU ["table", "state", "party", "seen"] spUnseen) (kU : PySem.W.keepIn K (.ref fU) = true) (bU : Binds K fdU ["table", "state", "party", "seen"] []) (gU : mg "reached_unseen" = some (.ref fU))
    (GC : FnOk P w K mg base CX0 k fC fdC ["action", "party"] spConc) (kC : PySem.W.keepIn K (.ref fC) = true) (bC : Binds K fdC ["action", "party"] []) (gC : mg "concerns" = some (.ref fC))
    (GL : FnOk P w K mg base CX0 k fL fdL ["table"] spLeast) (kL : PySem.W.keepIn K (.ref fL) = true) (bL : Binds K fdL ["table"] []) (gL : mg "least" = some (.ref fL))
    (GS : FnOk P w K mg base CX0 k fS fdS ["start", "moves", "ends", "limit"] spSub) (kS : PySem.W.keepIn K (.ref fS) = true) (bS : Binds K fdS ["start", "moves", "ends", "limit"] []) (gS : mg "subset_table" = some (.ref fS))
    (mL : mg "len" = none) (mR : mg "range" = none) (m3 : mg "MOST_STATES" = some (.int 300 t300)) : FnOk P w K mg base CX0 (k + 1) f fd ["table", "party", "seen"] spEra := by
  refine F.ok scEra (fun vs H Q E h => ?_) (fun cdv A outer s0 H vs Q E hr h => ?_)
  · obtain ⟨x, T, p, rfl, _⟩ := h
    rfl
  · obtain ⟨x, T, p, rfl, hT, hok, h60, hrl, few, q⟩ := h
    have hu := hu_of hr
    have nd := scEra.nd
    obtain ⟨pt, vr, ve, rfl, hpt, ⟨pr, vrs, rfl, hpr, prs⟩, ⟨pe, ves, rfl, hpe, pes⟩⟩ := id hT
    refine ⟨_, pss_cons (ps_set (i := 3) nd rfl (.inr rfl) (pe_lc (own := [("state", 6)]) (g := gName 6) (by rfl) nd (pi_range1 (by rfl) mR (pa_cons (pe_callB call_len_seq (by rfl) mL (by decide +kernel) (pa_cons (pe_ix ix_tup (pv 0) pe_int (fun _ _ => rfl)) pa_nil)) pa_nil)) (blkOk_by (N := nEra) (sc := defScope sEra) (by decide +kernel)) (fun _ _ _ _ _ => pg_name (i := 6) nd rfl (Or.inl rfl)) (fun _ _ _ _ _ => pts_nil)
        (fun _ _ _ _ _ => pe_call GU hr (by rfl) gU kU bU .nil pass0 (pa_cons (pv 0) (pa_cons (pv 6) (pa_cons (pv 1) (pa_cons (pv 2) pa_nil)))))))
      (pss_cons (ps_set (i := 4) nd rfl (.inl rfl) (pe_lst pa_nil))
      (pss_cons (ps_for PassesOwn.never rfl (pi_tup (pe_ix ix_tup (pv 0) pe_int (fun _ _ => rfl))) (pg_name (i := 5) nd rfl (.inl rfl))
        (pss_one (ps_expr (pe_bm PySem.F.plainAttrs_list PySem.F.slot_list_append PySem.F.type_list_append mt_append (pv 4) (pa_cons
          (pe_lc (own := [("action", 7), ("goal", 8)]) (g := g2 K 7 8) (by rfl) nd (pi_tup (pv 5)) (blkOk_by (N := nEra) (sc := defScope sEra) (by decide +kernel)) (fun _ _ _ _ _ => pg_tupK rfl rfl (pgs_cons (pg_name (i := 7) nd rfl (Or.inl rfl)) (pgs_cons (pg_name (i := 8) nd rfl (Or.inl rfl)) pgs_nil)))
            (fun _ _ _ _ _ => pts_one (pt_cmpR op_eq (pe_call GC hr (by rfl) gC kC bC .nil pass0 (pa_cons (pv 7) (pa_cons (pv 1) pa_nil))) (pv 2) (nomark _)))
            (fun _ _ _ _ _ => pe_tup (pa_cons (pv 7) (pa_cons (pe_ix (ix_listK (K := K) rfl) (pv 3) (pv 8) (fun _ _ => rfl)) pa_nil)))) pa_nil)))))
      (pss_one (ps_ret (pe_call GL hr (by rfl) gL kL bL .nil pass0 (pa_cons (pe_call GS hr (by rfl) gS kS bS .nil pass0 (pa_cons (pe_ix ix_list (pv 3) pe_int (fun _ _ => rfl)) (pa_cons (pv 4) (pa_cons (pe_ix ix_tup (pv 0) pe_int (fun _ _ => rfl)) (pa_cons (pe_glob (v := .int 300) (by rfl) m3 ⟨_, rfl⟩) pa_nil))))) pa_nil)))))), ?_⟩
    have eb : ves = T.ends.map V.bl := pbl pes
    subst eb
    have vl := plen prs
    refine ⟨.ref pt, rfl, pt, _, _, .ref pr, rfl, rfl, SqT.of hpt, atI_nat (j := 1) rfl, pr, vrs, rfl, .inr (SqT.of hpr), _, rfl, by omega, by omega, fun dr ndr => lc_it walk_rg (fun i H2 => Same H H2 ∧ ∃ re vs, H2 dr = some (.lst vs) ∧ Paired (RTup RNat H2) vs re ∧ re.length = i ∧ ∀ s, s < i → Asc (re.getD s []) ∧ ∀ g, g ∈ re.getD s [] ↔ UR T p s g)
      ⟨same_upd ndr, [], [], upd_same, .nil, rfl, fun s hs => absurd hs (Nat.not_lt_zero s)⟩ (fun i H2 _ _ => trivial) ?_ ?_⟩
    · rintro i y H2 H3 hi ⟨s2, re, vs, hdr, pre, rl, hre⟩ ⟨rfl, rfl⟩
      have hin : i < T.rows.length := by omega
      refine ⟨rfl, iteT (B := True) ⟨_, rfl, _, rfl, _, rfl, _, rfl, _, T, i, p, rfl, RTbl.mono _ _ _ _ s2 hT, hok, h60, hin, fun H4 qa l s4 nq hl al hm => ?_⟩⟩
      have pl := plen pre
      have hdr4 := s4 _ _ hdr
      have t5 : TSm H4 (upd H4 dr (.lst (vs ++ [.ref qa]))) := TSm.re hdr4 (fun _ => nofun)
      refine ⟨vs, hdr4, by rw [sizeLine_eq]; omega, same_re (s2.trans s4) ndr, re ++ [l], _, upd_same, psnoc ((RTup.tm RNat.tm).ps ((Same.ts s4).trans t5) pre) (RTup.tm RNat.tm _ _ _ _ t5 hl), by rw [List.length_append, rl]; rfl, fun s hs => ?_⟩
      by_cases hsi : s < re.length
      · have e : (re ++ [l]).getD s [] = re.getD s [] := by rw [List.getD_eq_getElem?_getD, List.getElem?_append_left hsi, ← List.getD_eq_getElem?_getD]
        rw [e]
        exact hre s (by omega)
      · have : s = re.length := by omega
        subst this
        have e : (re ++ [l]).getD re.length [] = l := getD_some (by rw [List.getElem?_append_right (Nat.le_refl _), Nat.sub_self]; rfl)
        rw [e, rl]
        exact ⟨al, hm⟩
    rintro H2 ⟨s2, re, rvs, hdr, pre, rl, hre⟩
    have rl : re.length = T.rows.length := by omega
    have hR : Reach T p re := ⟨rl, fun s hs => hre s (by omega)⟩
    refine ⟨Nat.le_of_ble_eq_true rfl, fun dm ndm => ?_⟩
    have s3 : Same H2 (upd H2 dm (.lst [])) := same_upd ndm
    have s03 := s2.trans s3
    have h0m : H dm = none := s2.free ndm
    refine ⟨.ref pt, rfl, pt, _, _, .ref pr, rfl, rfl, SqT.of (s03 _ _ hpt), atI_nat (j := 1) rfl, pr, rfl, ⟨_, SqT.of (s03 _ _ hpr)⟩,
      for_it (walk_tup (xs := vrs)) (fun i σ H7 => ∃ mvs y5, σ = [some (.ref pt), some (.str p), some (.bl true), some (.ref dr), some (.ref dm), y5, none, none, none] ∧ Same H2 H7 ∧ H7 dm = some (.lst mvs) ∧ Paired (RI dm dm H7) mvs ((T.rows.take i).map (seenRow p re)))
      ⟨[], none, rfl, s3, upd_same, .nil⟩ (fun i σ H7 _ ⟨_, _, _, sm, _⟩ => SqT.of (sm _ _ (s2 _ _ hpr))) ?_ ?_⟩
    · rintro i yv σ H7 H8 hi ⟨mvs, y5, rfl, sm, hdm, pmv⟩ ⟨rfl, hyi⟩
      obtain ⟨row, hrow, p5, vs5, rfl, hp5, prow⟩ := pget prs hyi
      have hrm : row ∈ T.rows := List.mem_of_getElem? hrow
      have s07 := s2.trans sm
      have hml := plen pmv
      rw [List.length_map, List.length_take] at hml
      refine ⟨.ref dm, rfl, .inl ⟨rfl, _, .inl (.inl hdm)⟩, .ref p5, rfl, p5, rfl, ⟨_, SqT.of (s07 _ _ hp5)⟩, fun D5 nD5 => lc_it (walk_tup (xs := vs5)) (fun j H9 => Same H8 H9 ∧ ∃ ws, H9 D5 = some (.lst ws) ∧ Paired (RMe H9) ws (seenRow p re (row.take j)))
        ⟨same_upd nD5, [], upd_same, .nil⟩ (fun j H9 _ ⟨s9, _⟩ => SqT.of (s9 _ _ (s07 _ _ hp5))) ?_ ?_⟩
      · rintro j yv H9 H10 hj ⟨s9, ws, hD5, hws⟩ ⟨rfl, hyj⟩
        obtain ⟨pq, hpq, p6, va, vb, rfl, hp6, hva, hvb⟩ := pget prow hyj
        cases (show vb = V.int _ from hvb)
        have s90 := s07.trans s9
        have hg : pq.2 < T.rows.length := hok.inb row hrm pq (List.mem_of_getElem? hpq)
        have em := seenRow_snoc (p := p) (re := re) (r := row.take j) (x := pq)
        rw [← take_snoc hpq] at em
        refine ⟨p6, _, rfl, SqT.of (s90 _ _ hp6), rfl, _, _, rfl, _, _, rfl, rfl, rfl, ?_⟩
        refine ⟨va, rfl, .str p, rfl, va, pq.1, p, rfl, RAct.mono _ _ _ _ s90 hva, .bl true, rfl, rfl, _, rfl, ite2 (fun e1 => ?_) (fun e1 => ?_)⟩
        · have e1 : conc pq.1 p = true := V.bl.inj (of_decide_eq_true e1)
          rw [if_pos e1] at em
          obtain ⟨rv, hrv, hrr⟩ := pget' pre (some_getD (d := []) (by rw [rl]; exact hg))
          refine ⟨_, rfl, _, rfl, _, rfl, dr, rvs, _, rv, rfl, rfl, SqL.of (s9 _ _ (sm _ _ hdr)), atI_nat hrv, Nat.le_of_ble_eq_true rfl, fun t9 nt9 => ?_⟩
          have nD9 : D5 ≠ t9 := ne_of_none hD5 nt9
          have hD9 : (upd H10 t9 (.tup [va, rv])) D5 = some (.lst ws) := by rw [upd_ne nD9]; exact hD5
          have wl : ws.length ≤ 100 := by
            have h1 := plen hws
            have h2 := hrl row hrm
            unfold seenRow at h1
            rw [List.length_map] at h1
            have h3 := List.length_filter_le (fun x : Act × Nat => conc x.1 p) (row.take j)
            rw [List.length_take] at h3
            omega
          have t10 : TSm H10 (upd (upd H10 t9 (.tup [va, rv])) D5 (.lst (ws ++ [.ref t9]))) := (TSm.new nt9).trans (TSm.re hD9 (fun _ => nofun))
          refine ⟨ws, hD9, by rw [sizeLine_eq]; omega, same_re (s9.trans (same_upd nt9)) nD5, _, upd_same, ?_⟩
          rw [em]
          exact psnoc (RMe.tm.ps t10 hws) ⟨t9, va, rv, rfl, by rw [upd_ne nD9.symm, upd_same], RAct.tm _ _ _ _ (Same.ts s90 |>.trans t10) hva, RTup.tm RNat.tm _ _ _ _ (Same.ts (sm.trans s9) |>.trans t10) hrr⟩
        · have e1 : ¬ conc pq.1 p = true := fun z => e1 (decide_eq_true (congrArg V.bl z))
          rw [if_neg e1, List.append_nil] at em
          refine ⟨s9, ws, hD5, ?_⟩
          rw [em]
          exact hws
      · rintro H9 ⟨s9, ws, hD5, hws⟩
        have et : row.take vs5.length = row := by rw [plen prow]; exact List.take_length
        rw [et] at hws
        have dD5 : D5 ≠ dm := fun e => by rw [e, hdm] at nD5; cases nD5
        have hdm9 := s9 _ _ hdm
        refine ⟨dm, mvs, _, rfl, rfl, hdm9, by rw [sizeLine_eq]; omega, ?_⟩
        have tF : TSm H9 (upd H9 dm (.lst (mvs ++ [.ref D5]))) := TSm.re hdm9 (fun _ => nofun)
        have keep : ∀ b o, b ≠ dm → b ≠ dm → H9 b = some o → (upd H9 dm (.lst (mvs ++ [.ref D5]))) b = some o := fun b o h1 _ h => by rw [upd_ne h1]; exact h
        refine ⟨mvs ++ [.ref D5], _, rfl, same_re (sm.trans s9) ndm, upd_same, ?_⟩
        rw [take_snoc hrow, List.map_append]
        exact psnoc (pmono pmv fun v r h => (show RI dm dm H9 v r from h.keep (fun b o _ _ h => s9 _ _ h) (Same.ts s9)).keep keep tF) ⟨D5, ws, rfl, dD5, dD5, keep _ _ dD5 dD5 hD5, RMe.tm.ps tF hws⟩
    · rintro σ H7 ⟨mvs, y5, rfl, sm, hdm, pmv⟩
      have et : T.rows.take vrs.length = T.rows := by rw [vl]; exact List.take_length
      rw [et] at pmv
      have s07 := s2.trans sm
      have hin := erased_in hok h60 hrl hR few
      obtain ⟨rv, hrv, hrr⟩ := pget' pre (some_getD (d := []) (by rw [rl]; exact hok.pos))
      refine ⟨_, rfl, dr, rvs, _, rv, rfl, rfl, SqL.of (sm _ _ hdr), atI_nat (j := 0) hrv, _, rfl, .ref pt, rfl, pt, _, _, .ref pe, rfl, rfl, SqT.of (s07 _ _ hpt), atI_nat (j := 2) rfl,
        _, _, _, re.getD 0 [], T.rows.map (seenRow p re), T.ends, 300, KP T p, rfl, RTup.mono RNat.mono _ _ _ _ sm hrr, ⟨dm, mvs, rfl, hdm, pmono pmv fun v r ⟨p, vs, e, _, _, hp, hq⟩ => ⟨p, vs, e, hp, hq⟩⟩, ⟨pe, rfl, .inr (s07 _ _ hpe)⟩, hin, fun H8 q1 T1 os s8 nq1 hT1 hsub hos => ?_⟩
      have ol : os.length ≤ 60 := few os hsub.nd fun l hl => ⟨(hos l hl).2, (hos l hl).1⟩
      have t1r : ∀ r ∈ T1.rows, r.length ≤ 6000 := fun r hr => by
        obtain ⟨l, hl, h1⟩ := hsub.rowlen r hr
        have hb : ∀ r ∈ T.rows.map (seenRow p re), r.length ≤ 100 := fun r hr => by
          obtain ⟨r0, h0, rfl⟩ := List.mem_map.mp hr
          unfold seenRow
          rw [List.length_map]
          exact Nat.le_trans (List.length_filter_le _ _) (hrl r0 h0)
        have h2 := mvAt_len hb l
        obtain ⟨⟨w, hw⟩, al⟩ := hos l hl
        have h3 := lt_len al.nodup (n := 60) fun s hs => by have := kn_lt hok ((hw s).mp hs); omega
        have h4 : l.length * 100 ≤ 60 * 100 := Nat.mul_le_mul_right 100 h3
        omega
      refine ⟨_, T1, rfl, hT1, hsub.ok, by rw [hsub.len]; exact ol, fun r hr => Nat.le_trans (t1r r hr) (by decide), fun H9 q2 M s9 nq2 hM mok ml mb ⟨R, b⟩ il => ?_⟩
      have s08 := s07.trans s8
      exact q H9 q2 M (s08.trans s9) (s08.free nq2) hM (mach_of hok hR hsub (fun l hl => (hos l hl).2) b il mok (by rw [hsub.len] at ml; omega) (mb 6000 t1r))
end
end PL
namespace PL
open PySem PySem.Spec PyProof.Rows L2
/-! texts in their order -/
theorem ltC_asymm : ∀ l m : List Nat, ltCps l m = true → ltCps m l = true → False
  | [], [], h, _ => by simp [ltCps] at h
  | [], _ :: _, _, h => by simp [ltCps] at h
  | _ :: _, [], h, _ => by simp [ltCps] at h
  | a :: r, b :: t, h, h' => by
    simp only [ltCps, Bool.or_eq_true, decide_eq_true_eq, Bool.and_eq_true, beq_iff_eq] at h h'
    rcases h with h | ⟨e, h⟩ <;> rcases h' with h' | ⟨e', h'⟩
    · omega
    · omega
    · omega
    · exact ltC_asymm r t h h'
theorem ltC_trans : ∀ l m n : List Nat, ltCps l m = true → ltCps m n = true → ltCps l n = true
  | [], [], _, h, _ => by simp [ltCps] at h
  | [], _ :: _, [], _, h => by simp [ltCps] at h
  | [], _ :: _, _ :: _, _, _ => rfl
  | _ :: _, [], _, h, _ => by simp [ltCps] at h
  | _ :: _, _ :: _, [], _, h => by simp [ltCps] at h
  | a :: r, b :: t, c :: u, h, h' => by
    simp only [ltCps, Bool.or_eq_true, decide_eq_true_eq, Bool.and_eq_true, beq_iff_eq] at h h' ⊢
    rcases h with h | ⟨e, h⟩ <;> rcases h' with h' | ⟨e', h'⟩
    · exact .inl (by omega)
    · exact .inl (by omega)
    · exact .inl (by omega)
    · exact .inr ⟨by omega, ltC_trans r t u h h'⟩
theorem ltC_tot : ∀ l m : List Nat, ltCps m l = false → l ≠ m → ltCps l m = true
  | [], [], _, h => absurd rfl h
  | [], _ :: _, _, _ => rfl
  | _ :: _, [], h, _ => by simp [ltCps] at h
  | a :: r, b :: t, h, n => by
    simp only [ltCps, Bool.or_eq_false_iff, decide_eq_false_iff_not, Bool.and_eq_false_iff, beq_eq_false_iff_ne] at h
    simp only [ltCps, Bool.or_eq_true, decide_eq_true_eq, Bool.and_eq_true, beq_iff_eq]
    by_cases e : a = b
    · refine .inr ⟨e, ltC_tot r t ?_ fun z => n (by rw [e, z])⟩
      rcases h.2 with h2 | h2
      · exact absurd e.symm h2
      · exact h2
    · exact .inl (by omega)
def ltS (a b : Str) : Prop := ltCps a.cps.toList b.cps.toList = true
theorem str_eq {a b : Str} (h : a.cps.toList = b.cps.toList) : a = b := by
  cases a
  cases b
  simp only at h
  rw [Array.toList_inj.mp h]
theorem rising_pw : ∀ (l : List Str) (p : Str), risingS p l = true → (p :: l).Nodup → (p :: l).Pairwise ltS
  | [], p, _, _ => List.pairwise_singleton _ _
  | x :: r, p, h, n => by
    have h : (!ltCps x.cps.toList p.cps.toList && risingS x r) = true := h
    rw [Bool.and_eq_true, Bool.not_eq_true'] at h
    have n1 := List.nodup_cons.mp n
    have ih := rising_pw r x h.2 n1.2
    have px : ltS p x := ltC_tot _ _ h.1 fun e => n1.1 (by rw [str_eq e]; exact List.mem_cons_self)
    refine List.pairwise_cons.mpr ⟨fun y hy => ?_, ih⟩
    rcases List.mem_cons.mp hy with e | hy
    · exact e ▸ px
    · exact ltC_trans _ _ _ px ((List.pairwise_cons.mp ih).1 y hy)
theorem sorted_pw {l : List Str} (h : sortedS l = true) (n : l.Nodup) : l.Pairwise ltS := by
  cases l with
  | nil => exact .nil
  | cons x r => exact rising_pw r x h n
theorem pw_ext {α : Type} {r : α → α → Prop} (asy : ∀ a b, r a b → r b a → False) : ∀ {l m : List α}, l.Pairwise r → m.Pairwise r → (∀ x, x ∈ l ↔ x ∈ m) → l = m
  | [], [], _, _, _ => rfl
  | [], y :: m, _, _, h => by have := (h y).mpr List.mem_cons_self; cases this
  | x :: l, [], _, _, h => by have := (h x).mp List.mem_cons_self; cases this
  | x :: l, y :: m, hl, hm, h => by
    have a1 := List.pairwise_cons.mp hl
    have a2 := List.pairwise_cons.mp hm
    have e : x = y := by
      rcases List.mem_cons.mp ((h x).mp List.mem_cons_self) with e | h1
      · exact e
      · rcases List.mem_cons.mp ((h y).mpr List.mem_cons_self) with e | h2
        · exact e.symm
        · exact (asy _ _ (a1.1 y h2) (a2.1 x h1)).elim
    subst e
    rw [pw_ext asy a1.2 a2.2 fun z => ?_]
    constructor
    · intro hz
      rcases List.mem_cons.mp ((h z).mp (List.mem_cons_of_mem _ hz)) with e | hz'
      · exact (asy _ _ (a1.1 z hz) (e ▸ a1.1 z hz)).elim
      · exact hz'
    · intro hz
      rcases List.mem_cons.mp ((h z).mpr (List.mem_cons_of_mem _ hz)) with e | hz'
      · exact (asy _ _ (a2.1 z hz) (e ▸ a2.1 z hz)).elim
      · exact hz'
def Occ (T : Tbl) (p : Str) : Prop := ∃ row ∈ T.rows, ∃ x ∈ row, x.1.1 = p ∨ x.1.2.1 = p
structure Good (T : Tbl) : Prop where
  ok : T.OK
  len : T.rows.length ≤ 60
  rowlen : ∀ r ∈ T.rows, r.length ≤ 100
  few : ∀ p, Occ T p → Few T p
  ps : ∃ Ps : List Str, Ps.length ≤ 60 ∧ ∀ p, Occ T p → p ∈ Ps
abbrev sPof : Stmt := topS 15
abbrev nPof : List Str := ["table", "found", "row", "action", "_"]
theorem scPof : FnScope nPof ["table"] (defScope sPof) := ⟨rfl, rfl, rfl, by decide +kernel, rfl, by decide +kernel, by decide +kernel⟩
def spPof : Sp := fun vs H Q _ => ∃ x T, vs = [x] ∧ RTbl H x T ∧ (∃ Ps : List Str, Ps.length ≤ 60 ∧ ∀ p, Occ T p → p ∈ Ps) ∧
  ∀ (H' : Hp) (q : Addr) (ps : List Str), Same H H' → H q = none → H' q = some (.lst (ps.map V.str)) → ps.Nodup → sortedS ps = true → (∀ p, p ∈ ps ↔ Occ T p) → Q (.ref q) H'
abbrev sMof : Stmt := topS 20
theorem scMof : FnScope ["table", "party"] ["table", "party"] (defScope sMof) := ⟨rfl, rfl, rfl, by decide +kernel, rfl, by decide +kernel, by decide +kernel⟩
def spMof : Sp := fun vs H Q _ => ∃ x T p, vs = [x, .str p] ∧ RTbl H x T ∧ T.OK ∧ T.rows.length ≤ 60 ∧ (∀ r ∈ T.rows, r.length ≤ 100) ∧ Few T p ∧
  ∀ (H' : Hp) (q : Addr) (M : Tbl), Same H H' → H q = none → RTbl H' (.ref q) M → Mach T p M → Q (.ref q) H'
/-- the machines, by party -/
abbrev Ms := List (Str × Tbl)
def RMs : Rl Ms := fun H v ms => ∃ D kvs, v = .ref D ∧ H D = some (.dK kvs) ∧ Paired (fun (kv : L2.Key × V) (x : Str × Tbl) => kv.1 = .inr x.1 ∧ RTbl H kv.2 x.2) kvs ms
theorem RMs.mono : Mono RMs := fun _ _ _ _ s ⟨D, kvs, e, h, q⟩ => ⟨D, kvs, e, s _ _ h, Paired.mapP q fun _ _ z => ⟨z.1, RTbl.mono _ _ _ _ s z.2⟩⟩
structure MsOk (T : Tbl) (ms : Ms) : Prop where
  nd : (ms.map (·.1)).Nodup
  mem : ∀ p, p ∈ ms.map (·.1) ↔ Occ T p
  mach : ∀ x ∈ ms, Mach T x.1 x.2
  len : ms.length ≤ 60
  srt : sortedS (ms.map (·.1)) = true
theorem MsOk.uniq {T : Tbl} {ms ms' : Ms} (h : MsOk T ms) (h' : MsOk T ms') : ms = ms' := by
  have e : ms.map (·.1) = ms'.map (·.1) := pw_ext (r := ltS) (fun _ _ => ltC_asymm _ _) (sorted_pw h.srt h.nd) (sorted_pw h'.srt h'.nd) fun p => (h.mem p).trans (h'.mem p).symm
  refine List.ext_getElem? fun j => ?_
  have ej := congrArg (fun l : List Str => l[j]?) e
  simp only [List.getElem?_map] at ej
  cases a : ms[j]? with
  | none =>
    rw [a] at ej
    cases b : ms'[j]? with
    | none => rfl
    | some y => rw [b] at ej; cases ej
  | some x =>
    rw [a] at ej
    cases b : ms'[j]? with
    | none => rw [b] at ej; cases ej
    | some y =>
      rw [b] at ej
      have e1 : x.1 = y.1 := Option.some.inj ej
      have m1 := (h.mach x (List.mem_of_getElem? a)).is
      have m2 := (h'.mach y (List.mem_of_getElem? b)).is
      rw [← e1] at m2
      rw [Prod.ext e1 (m1.uniq m2)]
abbrev sMsof : Stmt := topS 21
abbrev nMsof : List Str := ["table", "party"]
theorem scMsof : FnScope nMsof ["table"] (defScope sMsof) := ⟨rfl, rfl, rfl, by decide +kernel, rfl, by decide +kernel, by decide +kernel⟩
def spMsof : Sp := fun vs H Q _ => ∃ x T, vs = [x] ∧ RTbl H x T ∧ Good T ∧
  ∀ (H' : Hp) (q : Addr) (ms : Ms), Same H H' → H q = none → RMs H' (.ref q) ms → MsOk T ms → Q (.ref q) H'
def keyS (p : Str) : L2.Key := .inr p
theorem keyS_inj : ∀ a b, keyS a = keyS b → a = b := fun a b e => Sum.inr.inj e
section
variable {P : Program} {w : World} {K : PySem.W.Frag} {mg : Str → Option Value} {base : Heap}
theorem ok_pof {f : Addr} {fd : FuncData} {k : Nat} (F : Fun K "parties_of" "parties_of" sPof f fd) (mS : mg "sorted" = none) : FnOk P w K mg base CX0 (k + 1) f fd ["table"] spPof := by
  refine F.ok scPof (fun vs H Q E h => ?_) (fun cdv A outer s0 H vs Q E hr h => ?_)
  · obtain ⟨x, T, rfl, _⟩ := h
    rfl
  · obtain ⟨x, T, rfl, hT, ⟨Ps, hPs, hPm⟩, q⟩ := h
    have hu := hu_of hr
    have nd := scPof.nd
    obtain ⟨pt, vr, ve, rfl, hpt, ⟨pr, vrs, rfl, hpr, prs⟩, _⟩ := id hT
    refine ⟨_, pss_cons (ps_set (i := 1) nd rfl (.inl rfl) pe_dnewK)
      (pss_cons (ps_for PassesOwn.never rfl (pi_tup (pe_ix ix_tup (pv 0) pe_int (fun _ _ => rfl))) (pg_name (i := 2) nd rfl (.inl rfl))
        (pss_one (ps_for PassesOwn.never rfl (pi_tup (pv 2)) (pg_tup rfl (pgs_cons (pg_name (i := 3) nd rfl (.inl rfl)) (pgs_cons (pg_name (i := 4) nd rfl (.inl rfl)) pgs_nil)))
          (pss_cons (ps_dput hu (pv 1) (pe_ix ix_tup (pv 3) pe_int (fun _ _ => rfl)) pe_bl rfl)
          (pss_one (ps_dput hu (pv 1) (pe_ix ix_tup (pv 3) pe_int (fun _ _ => rfl)) pe_bl rfl))))))
      (pss_one (ps_ret (pe_callB (call_sortedD rfl) (by rfl) mS (by decide +kernel) (pa_cons (pv 1) pa_nil))))), ?_⟩
    intro d hd
    have s1 : Same H (upd H d (.dK [])) := same_upd hd
    -- the texts met
    let Inv' : (Str → Prop) → Hp → Prop := fun S H7 => Same H H7 ∧ ∃ (kvs : List (L2.Key × V)) (ks : List Str), H7 d = some (.dK kvs) ∧ kvs.map (·.1) = ks.map keyS ∧ ks.Nodup ∧ ∀ p, p ∈ ks ↔ S p
    have putI : ∀ {S : Str → Prop} {H7 : Hp} {kvs : List (L2.Key × V)} {ks : List Str} (p : Str) (v : V), Same H H7 → H7 d = some (.dK kvs) → kvs.map (·.1) = ks.map keyS → ks.Nodup → (∀ p, p ∈ ks ↔ S p) → Inv' (fun x => S x ∨ x = p) (upd H7 d (.dK (putK kvs (keyS p) v))) := by
      intro S H7 kvs ks p v sm hk ek hn hm
      refine ⟨same_re sm hd, putK kvs (keyS p) v, if p ∈ ks then ks else ks ++ [p], upd_same, ?_, ?_, ?_⟩
      · have hin : (keyS p ∈ kvs.map (·.1)) ↔ p ∈ ks := by
          rw [ek, List.mem_map]
          exact ⟨fun ⟨x, h, e⟩ => keyS_inj _ _ e ▸ h, fun h => ⟨p, h, rfl⟩⟩
        rw [putK_fst]
        by_cases h : p ∈ ks
        · rw [if_pos h]
          unfold ins
          rw [if_pos (hin.mpr h)]
          exact ek
        · rw [if_neg h]
          unfold ins
          rw [if_neg (fun z => h (hin.mp z)), List.map_append, ek]
          rfl
      · split
        · exact hn
        · rename_i h
          refine List.nodup_append.mpr ⟨hn, by simp, fun a ha b hb e => ?_⟩
          have : b = p := by simpa using hb
          subst this
          exact h (e ▸ ha)
      · intro x
        split
        · rename_i h
          rw [hm]
          exact ⟨.inl, fun z => z.elim id fun e => by rw [e]; exact (hm p).mp h⟩
        · rw [List.mem_append, hm, List.mem_singleton]
    have small : ∀ {kvs : List (L2.Key × V)} {ks : List Str}, kvs.map (·.1) = ks.map keyS → ks.Nodup → (∀ p ∈ ks, Occ T p) → kvs.length ≤ 60 := by
      intro kvs ks ek hn hm
      have h1 : kvs.length = ks.length := by have := congrArg List.length ek; simpa using this
      have h2 := nodup_le hn fun p hp => hPm p (hm p hp)
      omega
    let S0 : Nat → Str → Prop := fun i p => ∃ row ∈ T.rows.take i, ∃ x ∈ row, x.1.1 = p ∨ x.1.2.1 = p
    refine ⟨.ref pt, rfl, pt, _, _, .ref pr, rfl, rfl, SqT.of (s1 _ _ hpt), atI_nat (j := 1) rfl, pr, rfl, ⟨_, SqT.of (s1 _ _ hpr)⟩,
      for_it (walk_tup (xs := vrs)) (fun i σ H7 => ∃ y2 y3 y4, σ = [some (.ref pt), some (.ref d), y2, y3, y4] ∧ Inv' (S0 i) H7)
      ⟨none, none, none, rfl, s1, [], [], upd_same, rfl, List.nodup_nil, fun p => ⟨(fun h => by cases h), fun ⟨r, h, _⟩ => by simp at h⟩⟩ (fun i σ H7 _ ⟨_, _, _, _, sm, _⟩ => SqT.of (sm _ _ hpr)) ?_ ?_⟩
    · rintro i yv σ H7 H8 hi ⟨y2, y3, y4, rfl, hI⟩ ⟨rfl, hyi⟩
      obtain ⟨row, hrow, p5, vs5, rfl, hp5, prow⟩ := pget prs hyi
      have hrm : row ∈ T.rows := List.mem_of_getElem? hrow
      refine ⟨.ref p5, rfl, p5, rfl, ⟨_, SqT.of (hI.1 _ _ hp5)⟩, for_it (walk_tup (xs := vs5)) (fun j σ H7 => ∃ y3 y4, σ = [some (.ref pt), some (.ref d), some (.ref p5), y3, y4] ∧ Inv' (fun p => S0 i p ∨ ∃ x ∈ row.take j, x.1.1 = p ∨ x.1.2.1 = p) H7)
        ⟨_, _, rfl, hI.1, let ⟨kvs, ks, h1, h2, h3, h4⟩ := hI.2; ⟨kvs, ks, h1, h2, h3, fun p => by rw [h4]; simp⟩⟩ (fun i σ H7 _ ⟨_, _, _, sm, _⟩ => SqT.of (sm _ _ hp5)) ?_ ?_⟩
      · rintro j yv σ H9 H10 hj ⟨y3, y4, rfl, sm, kvs, ks, hk, ek, hn, hm⟩ ⟨rfl, hyj⟩
        obtain ⟨pq, hpq, p6, va, vb, rfl, hp6, ⟨pa, rfl, hpa⟩, hvb⟩ := pget prow hyj
        have hpqm : pq ∈ row := List.mem_of_getElem? hpq
        have occ : ∀ p ∈ ks, Occ T p := fun p hp => by
          rcases (hm p).mp hp with ⟨r, hr, x, hx, e⟩ | ⟨x, hx, e⟩
          · exact ⟨r, List.mem_of_mem_take hr, x, hx, e⟩
          · exact ⟨row, hrm, x, List.mem_of_mem_take hx, e⟩
        have sl := small ek hn occ
        refine ⟨p6, _, rfl, SqT.of (sm _ _ hp6), rfl, _, _, rfl, _, _, rfl, rfl, ?_⟩
        refine ⟨_, rfl, _, rfl, pa, _, _, .str pq.1.1, rfl, rfl, SqT.of (sm _ _ hpa), atI_nat (j := 0) rfl, d, _, rfl, DPut.k (k := keyS pq.1.1) hk (by rw [sizeLine_eq]; omega), ?_⟩
        obtain ⟨sm2, kv2, ks2, hk2, ek2, hn2, hm2⟩ := putI pq.1.1 (.bl true) sm hk ek hn hm
        have occ2 : ∀ p ∈ ks2, Occ T p := fun p hp => by
          rcases (hm2 p).mp hp with h | e
          · exact occ p ((hm p).mpr h)
          · exact ⟨row, hrm, pq, hpqm, .inl e.symm⟩
        have sl2 := small ek2 hn2 occ2
        refine ⟨_, rfl, _, rfl, pa, _, _, .str pq.1.2.1, rfl, rfl, SqT.of (sm2 _ _ hpa), atI_nat (j := 1) rfl, d, _, rfl, DPut.k (k := keyS pq.1.2.1) hk2 (by rw [sizeLine_eq]; omega), ?_⟩
        obtain ⟨sm3, kv3, ks3, hk3, ek3, hn3, hm3⟩ := putI pq.1.2.1 (.bl true) sm2 hk2 ek2 hn2 hm2
        refine ⟨_, _, rfl, sm3, kv3, ks3, hk3, ek3, hn3, fun p => ?_⟩
        rw [hm3, take_snoc hpq]
        constructor
        · rintro ((h | e) | e)
          · rcases h with h | ⟨x, hx, e⟩
            · exact .inl h
            · exact .inr ⟨x, List.mem_append_left _ hx, e⟩
          · exact .inr ⟨pq, List.mem_append_right _ (by simp), .inl e.symm⟩
          · exact .inr ⟨pq, List.mem_append_right _ (by simp), .inr e.symm⟩
        · rintro (h | ⟨x, hx, e⟩)
          · exact .inl (.inl (.inl h))
          · rcases List.mem_append.mp hx with hx | hx
            · exact .inl (.inl (.inr ⟨x, hx, e⟩))
            · have : x = pq := by simpa using hx
              subst this
              rcases e with e | e
              · exact .inl (.inr e.symm)
              · exact .inr e.symm
      · rintro σ H9 ⟨y3, y4, rfl, sm, kvs, ks, hk, ek, hn, hm⟩
        refine ⟨_, _, _, rfl, sm, kvs, ks, hk, ek, hn, fun p => ?_⟩
        rw [hm, plen prow, List.take_length]
        show _ ↔ ∃ r ∈ T.rows.take (i + 1), _
        rw [take_snoc hrow]
        constructor
        · rintro (⟨r, hr, h⟩ | h)
          · exact ⟨r, List.mem_append_left _ hr, h⟩
          · exact ⟨row, List.mem_append_right _ (by simp), h⟩
        · rintro ⟨r, hr, h⟩
          rcases List.mem_append.mp hr with hr | hr
          · exact .inl ⟨r, hr, h⟩
          · have : r = row := by simpa using hr
            subst this
            exact .inr h
    · rintro σ H7 ⟨y2, y3, y4, rfl, sm, kvs, ks, hk, ek, hn, hm⟩
      have hm' : ∀ p, p ∈ ks ↔ Occ T p := fun p => by
        rw [hm]
        show (∃ row ∈ T.rows.take vrs.length, _) ↔ _
        rw [plen prs, List.take_length]
        exact Iff.rfl
      have h2 := nodup_le hn fun p hp => hPm p ((hm' p).mp hp)
      refine ⟨_, rfl, d, kvs, ks, rfl, .inl hk, ek, by omega, fun ys p pm srt np => ?_⟩
      exact q _ p ys (sm.trans (same_upd np)) (sm.free np) upd_same (pm.nodup_iff.mpr hn) srt fun x => (pm.mem_iff).trans (hm' x)
theorem ok_mof {f fE : Addr} {fd fdE : FuncData} {k : Nat} (F : Fun K "machine_of" "machine_of" sMof f fd)
    (GE : FnOk P w K mg base CX0 k fE fdE ["table", "party", "seen"] spEra) (kE : PySem.W.keepIn K (.ref fE) = true) (bE : Binds K fdE ["table", "party", "seen"] []) (gE : mg "erased" = some (.ref fE)) : FnOk P w K mg base CX0 (k + 1) f fd ["table", "party"] spMof := by
  refine F.ok scMof (fun vs H Q E h => ?_) (fun cdv A outer s0 H vs Q E hr h => ?_)
  · obtain ⟨x, T, p, rfl, _⟩ := h
    rfl
  · obtain ⟨x, T, p, rfl, hT, hok, h60, hrl, few, q⟩ := h
    refine ⟨_, pss_one (ps_ret (pe_call GE hr (by rfl) gE kE bE .nil pass0 (pa_cons (pv 0) (pa_cons (pv 1) (pa_cons pe_bl pa_nil))))), ?_⟩
    exact ⟨_, rfl, _, rfl, _, T, p, rfl, hT, hok, h60, hrl, few, q⟩
theorem ok_msof {f fP fM : Addr} {fd fdP fdM : FuncData} {k : Nat} (F : Fun K "machines_of" "machines_of" sMsof f fd)
    (GP : FnOk P w K mg base CX0 k fP fdP ["table"] spPof) (kP : PySem.W.keepIn K (.ref fP) = true) (bP : Binds K fdP ["table"] []) (gP : mg "parties_of" = some (.ref fP))
    (GM : FnOk P w K mg base CX0 k fM fdM ["table", "party"] spMof) (kM : PySem.W.keepIn K (.ref fM) = true) (bM : Binds K fdM ["table", "party"] []) (gM : mg "machine_of" = some (.ref fM)) : FnOk P w K mg base CX0 (k + 1) f fd ["table"] spMsof := by
  refine F.ok scMsof (fun vs H Q E h => ?_) (fun cdv A outer s0 H vs Q E hr h => ?_)
  · obtain ⟨x, T, rfl, _⟩ := h
    rfl
  · obtain ⟨x, T, rfl, hT, hg, q⟩ := h
    have nd := scMsof.nd
    refine ⟨_, pss_one (ps_ret (pe_dcK (own := [("party", 1)]) (g := gName 1) (by rfl) nd (pi_list (pe_call GP hr (by rfl) gP kP bP .nil pass0 (pa_cons (pv 0) pa_nil))) (blkOk_by (N := nMsof) (sc := defScope sMsof) (by decide +kernel)) (fun _ _ _ _ _ => pg_name (i := 1) nd rfl (Or.inl rfl)) (fun _ _ _ _ _ => pts_nil) (fun _ _ _ _ _ => pv 1)
      (fun _ _ _ _ _ => pe_call GM hr (by rfl) gM kM bM .nil pass0 (pa_cons (pv 0) (pa_cons (pv 1) pa_nil))))), ?_⟩
    refine ⟨_, rfl, _, T, rfl, hT, hg.ps, fun H1 lp ps s1 nlp hlp hnd srt hmem => ?_⟩
    refine ⟨lp, rfl, ⟨_, SqL.of hlp⟩, fun D nD => ⟨_, _, _, walk_list (xs := ps.map V.str), fun i H2 => Same H1 H2 ∧ ∃ kvs ms, H2 D = some (.dK kvs) ∧ Paired (fun (kv : L2.Key × V) (x : Str × Tbl) => kv.1 = .inr x.1 ∧ RTbl H2 kv.2 x.2) kvs ms ∧ ms.map (·.1) = ps.take i ∧ ∀ x ∈ ms, Mach T x.1 x.2, ?_, ?_, ?_, ?_⟩⟩
    · exact ⟨same_upd nD, [], [], upd_same, .nil, rfl, by simp⟩
    · intro i H2 _ ⟨sm, _⟩
      exact SqL.of (sm _ _ hlp)
    · rintro i x H2 H3 hi ⟨sm, kvs, ms, hD, hp, em, hm⟩ ⟨rfl, hx⟩
      obtain ⟨p, hpi, rfl⟩ : ∃ p, ps[i]? = some p ∧ x = .str p := by
        rw [List.getElem?_map] at hx
        cases e : ps[i]? with
        | none => rw [e] at hx; cases hx
        | some p => rw [e] at hx; exact ⟨p, rfl, (Option.some.inj hx).symm⟩
      have hpm : p ∈ ps := List.mem_of_getElem? hpi
      have s13 := s1.trans sm
      refine ⟨rfl, iteT (B := True) ⟨_, rfl, _, rfl, _, rfl, _, T, p, rfl, RTbl.mono _ _ _ _ s13 hT, hg.ok, hg.len, hg.rowlen, hg.few p ((hmem p).mp hpm), fun H4 qm M s4 nq hM hMa => ?_⟩⟩
      have hD4 := s4 _ _ hD
      have kl : kvs.length ≤ 60 := by
        have h1 := plen hp
        have h2 := congrArg List.length em
        simp only [List.length_map, List.length_take] at h2
        obtain ⟨Ps, q1, q2⟩ := hg.ps
        have h3 := nodup_le hnd fun p hp => q2 p ((hmem p).mp hp)
        omega
      refine ⟨kvs, .inr p, rfl, hD4, by rw [sizeLine_eq]; omega, same_re (sm.trans s4) nD, ?_⟩
      have hnew : valV kvs (.inr p) = none := by
        cases h : valV kvs (.inr p) with
        | none => rfl
        | some v0 =>
          exfalso
          have h1 : (kvs.any fun kv => decide (kv.1 = .inr p)) = true := by rw [valV_any, h]; rfl
          obtain ⟨kv, hkv, e⟩ := List.any_eq_true.mp h1
          obtain ⟨g0, hg0, e1, _⟩ := pmem hp hkv
          have e2 : g0.1 = p := Sum.inr.inj (e1.symm.trans (of_decide_eq_true e))
          have h3 : p ∈ ps.take i := by rw [← em]; exact List.mem_map.mpr ⟨g0, hg0, e2⟩
          obtain ⟨j, hj, ej⟩ := List.getElem_of_mem h3
          rw [List.length_take] at hj
          have h4 : ps[j]? = some p := by
            rw [List.getElem_take] at ej
            rw [List.getElem?_eq_getElem (by omega), ej]
          have := nd_ix hnd h4 hpi
          omega
      have t5 : TSm H4 (upd H4 D (.dK (putK kvs (.inr p) (.ref qm)))) := TSm.re hD4 (fun _ => nofun)
      refine ⟨kvs ++ [(.inr p, .ref qm)], ms ++ [(p, M)], by rw [upd_same, putK_new _ hnew], psnoc ?_ ⟨rfl, RTbl.tm _ _ _ _ t5 hM⟩, ?_, fun x hx => ?_⟩
      · refine Paired.mapP hp ?_
        intro kv x h
        exact ⟨h.1, RTbl.tm _ _ _ _ ((Same.ts s4).trans t5) h.2⟩
      · rw [List.map_append, em, take_snoc hpi]
        rfl
      · rcases List.mem_append.mp hx with hx | hx
        · exact hm x hx
        · have : x = (p, M) := by simpa using hx
          subst this
          exact hMa
    · rintro H2 ⟨sm, kvs, ms, hD, hp, em, hm⟩
      have el : ms.map (·.1) = ps := by rw [em, List.length_map]; exact List.take_length
      obtain ⟨Ps, q1, q2⟩ := hg.ps
      have h3 := nodup_le hnd fun p hp => q2 p ((hmem p).mp hp)
      have hl : ms.length = ps.length := by have := congrArg List.length el; simpa using this
      exact q H2 D ms (s1.trans sm) (s1.free nD) ⟨D, kvs, rfl, hD, hp⟩ ⟨el ▸ hnd, fun p => by rw [el]; exact hmem p, hm, by omega, by rw [el]; exact srt⟩
end
end PL
namespace PL
open PySem PySem.Spec PyProof.Rows L2
theorem same_unlock {H H' : Hp} {d : Addr} {u : HO} {od : Obj} (hd : H d = some u) (s : Same (upd H d (.frz od u)) H') : Same H (upd H' d u) := fun b o e => by
  by_cases h : b = d
  · subst h
    rw [hd] at e
    cases e
    exact upd_same
  · rw [upd_ne h]
    exact s _ _ (by rw [upd_ne h]; exact e)
theorem ts_lock {H : Hp} {d : Addr} {u : HO} {od : Obj} (hd : H d = some u) (hn : ∀ ys, u ≠ .tup ys) : TSm H (upd H d (.frz od u)) := TSm.re hd hn
/-- one more step of the machines -/
def stepJ (a : Act) (ms : Ms) (js : List Nat) : List Nat := List.zipWith (fun (x : Str × Tbl) j => if conc a x.1 = true then (x.2.next j a).getD 0 else j) ms js
abbrev sNj : Stmt := topS 24
abbrev nNj : List Str := ["table", "machines", "joint", "action", "states", "place", "party", "state"]
theorem scNj : FnScope nNj ["table", "machines", "joint", "action"] (defScope sNj) := ⟨rfl, rfl, rfl, by decide +kernel, rfl, by decide +kernel, by decide +kernel⟩
def spNj : Sp := fun vs H Q _ => ∃ x y z v T ms s js a g, vs = [x, y, z, v] ∧ RTbl H x T ∧ RMs H y ms ∧ (ms.map (·.1)).Nodup ∧ ms.length ≤ 60 ∧ RTup RNat H z (s :: js) ∧ RAct H v a ∧ js.length = ms.length ∧ s < T.rows.length ∧ T.next s a = some g ∧
  (∀ (i : Nat) x j, ms[i]? = some x → js[i]? = some j → j < x.2.rows.length ∧ (conc a x.1 = true → ∃ j', x.2.next j a = some j')) ∧
  ∀ (H' : Hp) (q : Addr), Same H H' → H q = none → RTup RNat H' (.ref q) (g :: stepJ a ms js) → Q (.ref q) H'
section
variable {P : Program} {w : World} {K : PySem.W.Frag} {mg : Str → Option Value} {base : Heap}
theorem ok_nj {f fN fC : Addr} {fd fdN fdC : FuncData} {k : Nat} (F : Fun K "next_joint" "next_joint" sNj f fd)
    (GN : FnOk P w K mg base CX0 k fN fdN ["table", "state", "action"] spNext) (kN : PySem.W.keepIn K (.ref fN) = true) (bN : Binds K fdN ["table", "state", "action"] []) (gN : mg "next_state" = some (.ref fN))
    (GC : FnOk P w K mg base CX0 k fC fdC ["action", "party"] spConc) (kC : PySem.W.keepIn K (.ref fC) = true) (bC : Binds K fdC ["action", "party"] []) (gC : mg "concerns" = some (.ref fC))
    (mT : mg "tuple" = none) (mE : mg "enumerate" = none) : FnOk P w K mg base CX0 (k + 1) f fd ["table", "machines", "joint", "action"] spNj := by
  refine F.ok scNj (fun vs H Q E h => ?_) (fun cdv A outer s0 H vs Q E hr h => ?_)
  · obtain ⟨x, y, z, v, T, ms, s, js, a, g, rfl, _⟩ := h
    rfl
  · obtain ⟨x, y, z, v, T, ms, s, js, a, g, rfl, hT, ⟨d, kvs, rfl, hd, hms⟩, hnd, hml, ⟨pj, vj, rfl, hpj, hvj⟩, hv, hjl, hs, hg, hst, q⟩ := h
    have hu := hu_of hr
    have nd := scNj.nd
    refine ⟨_, pss_cons (ps_set (i := 4) nd rfl (.inl rfl) (pe_lst (pa_cons (pe_call GN hr (by rfl) gN kN bN .nil pass0 (pa_cons (pv 0) (pa_cons (pe_ix ix_tup (pv 2) pe_int (fun _ _ => rfl)) (pa_cons (pv 3) pa_nil)))) pa_nil)))
      (pss_cons (ps_lock (ps_for PassesOwn.never rfl (pi_enD (by rfl) mE (pa_cons (pv 1) pa_nil)) (pg_tup rfl (pgs_cons (pg_name (i := 5) nd rfl (.inl rfl)) (pgs_cons (pg_name (i := 6) nd rfl (.inl rfl)) pgs_nil)))
        (pss_cons (ps_set (i := 7) nd rfl (.inl rfl) (pe_ix ix_tup (pv 2) (pe_add (pv 5) pe_int) (fun _ _ => rfl)))
        (pss_cons (ps_cut (ps_if (pt_val (pe_call GC hr (by rfl) gC kC bC .nil pass0 (pa_cons (pv 3) (pa_cons (pv 6) pa_nil))))
          (pss_one (ps_set (i := 7) nd rfl (.inl rfl) (pe_call GN hr (by rfl) gN kN bN .nil pass0 (pa_cons (pe_dget hu (pv 1) (pv 6) (fun _ _ => rfl)) (pa_cons (pv 7) (pa_cons (pv 3) pa_nil)))))) pss_nil))
        (pss_one (ps_expr (pe_bm PySem.F.plainAttrs_list PySem.F.slot_list_append PySem.F.type_list_append mt_append (pv 4) (pa_cons (pv 7) pa_nil))))))))
      (pss_one (ps_ret (pe_callTy (cr_tup (K := K) rfl) (by rfl) mT (by decide +kernel) (pa_cons (pv 4) pa_nil))))), ?_⟩
    have evj := pnat hvj
    subst evj
    refine ⟨_, rfl, _, rfl, pj, _, _, .int (s : Int), rfl, rfl, SqT.of hpj, atI_nat (j := 0) rfl, v, rfl, x, v, T, s, a, rfl, hT, hs, hv, ?_⟩
    rw [hg]
    refine ⟨Nat.le_of_ble_eq_true rfl, fun dl ndl => ?_⟩
    have nld : dl ≠ d := fun e => by rw [e, hd] at ndl; cases ndl
    have hd1 : (upd H dl (.lst [.int (g : Int)])) d = some (.dK kvs) := same_upd ndl _ _ hd
    refine ⟨d, .dK kvs, hd1, True.intro, fun od => ?_⟩
    have kl := plen hms
    have ndl' : (upd H d (.frz od (.dK kvs))) dl = none := by rw [upd_ne nld]; exact ndl
    have t0 : TSm H (upd H d (.frz od (.dK kvs))) := TSm.re hd (fun _ => nofun)
    have s0 : Same (upd H d (.frz od (.dK kvs))) (upd (upd H dl (.lst [.int (g : Int)])) d (.frz od (.dK kvs))) := fun b o e => by
      by_cases h : b = d
      · subst h
        rw [upd_same] at e ⊢
        exact e
      · rw [upd_ne h] at e ⊢
        exact same_upd ndl _ _ e
    have slen : (stepJ a ms js).length = ms.length := by unfold stepJ; rw [List.length_zipWith, hjl, Nat.min_self]
    refine ⟨_, rfl, d, od, kvs, rfl, upd_same, for_it walk_en (fun i σ H7 => ∃ y5 y6 y7, σ = [some x, some (.ref d), some (.ref pj), some v, some (.ref dl), y5, y6, y7] ∧ Same (upd H d (.frz od (.dK kvs))) H7 ∧ H7 dl = some (.lst ((g :: (stepJ a ms js).take i).map fun n : Nat => V.int (n : Int))))
      ⟨none, none, none, rfl, s0, by rw [upd_ne nld, upd_same]; rfl⟩ (fun i σ H7 _ ⟨_, _, _, _, sm, _⟩ => sm _ _ upd_same) ?_ ?_⟩
    · rintro i yv σ H7 H8 hi ⟨y5, y6, y7, rfl, sm, hl⟩ ⟨tT, y, rfl, nT, rfl, kk, vv, hkv, rfl⟩
      obtain ⟨xm, hxm, ek, hM⟩ := pget hms hkv
      cases (show kk = _ from ek)
      have him : i < ms.length := (List.getElem?_eq_some_iff.mp hxm).1
      obtain ⟨j, hj⟩ : ∃ j, js[i]? = some j := ⟨_, List.getElem?_eq_getElem (by omega)⟩
      have s8 : Same (upd H d (.frz od (.dK kvs))) (upd H7 tT (.tup [.int (i : Nat), kV (.inr xm.1)])) := sm.trans (same_upd nT)
      have t8 : TSm H _ := t0.trans (Same.ts s8)
      have hvj1 : ((s :: js).map fun n : Nat => V.int (n : Int))[i + 1]? = some (.int (j : Int)) := by
        rw [List.map_cons, List.getElem?_cons_succ, List.getElem?_map, hj]
        rfl
      have hat : atI ((s :: js).map fun n : Nat => V.int (n : Int)) (((i : Nat) : Int) + 1) = some (.int (j : Int)) := atI_nat (j := i + 1) hvj1
      refine ⟨tT, _, rfl, SqT.of upd_same, rfl, _, _, rfl, _, _, rfl, rfl, ?_⟩
      refine ⟨_, rfl, _, rfl, _, _, rfl, rfl, pj, _, _, _, rfl, rfl, SqT.of (t8 _ _ hpj), hat, ?_⟩
      obtain ⟨hjr, hstp⟩ := hst i xm j hxm hj
      have hsj : (stepJ a ms js)[i]? = some (if conc a xm.1 = true then (xm.2.next j a).getD 0 else j) := by
        unfold stepJ
        rw [List.getElem?_zipWith, hxm, hj]
      refine ⟨fun σ' H9 => H9 = upd H7 tT (.tup [.int (i : Nat), kV (.inr xm.1)]) ∧ ∃ j' : Nat, (stepJ a ms js)[i]? = some j' ∧ σ' = [some x, some (.ref d), some (.ref pj), some v, some (.ref dl), some (.int (i : Nat)), some (kV (.inr xm.1)), some (.int (j' : Int))],
        ⟨_, rfl, _, rfl, v, a, xm.1, rfl, RAct.tm _ _ _ _ t8 hv, _, rfl, ite2 (fun e1 => ?_) (fun e1 => ?_)⟩, ?_⟩
      · obtain ⟨j', hj'⟩ := hstp e1
        have hval : valV kvs (.inr xm.1) = some vv := by
          exact kv_ix (f := fun x : Str × Tbl => keyS x.1) (G := fun v x => RTbl H v x.2) hms (by have h := map_nodup keyS_inj hnd; rw [List.map_map] at h; exact h) hkv hxm
        have hdf : (upd H7 tT (.tup [.int (i : Nat), kV (.inr xm.1)])) d = some (.frz od (.dK kvs)) := s8 _ _ upd_same
        refine ⟨_, rfl, _, rfl, d, vv, rfl, .inl ⟨kvs, .inr xm.1, .inr ⟨od, hdf⟩, rfl, hval.symm⟩, _, rfl, _, rfl, vv, v, xm.2, j, a, rfl, RTbl.tm _ _ _ _ t8 hM, hjr, RAct.tm _ _ _ _ t8 hv, ?_⟩
        rw [hj']
        refine ⟨rfl, j', ?_, rfl⟩
        rw [hsj, if_pos e1, hj']
        rfl
      · exact ⟨rfl, j, by rw [hsj, if_neg e1], rfl⟩
      · rintro σ' H9 ⟨rfl, j', hj', rfl⟩
        have hl8 := same_upd (o := .tup [.int (i : Nat), kV (.inr xm.1)]) nT _ _ hl
        have len : ((stepJ a ms js).take i).length ≤ 60 := by rw [List.length_take]; omega
        refine ⟨.ref dl, rfl, .inl ⟨rfl, _, .inl (.inl hl8)⟩, _, rfl, dl, _, _, rfl, rfl, hl8, by rw [List.length_map, List.length_cons, sizeLine_eq]; omega, ?_⟩
        refine ⟨_, _, _, rfl, same_re s8 ndl', ?_⟩
        rw [upd_same, take_snoc hj', ← List.cons_append, List.map_append]
        rfl
    · rintro σ H7 ⟨y5, y6, y7, rfl, sm, hl⟩
      refine ⟨sm _ _ upd_same, ?_⟩
      have et : (stepJ a ms js).take kvs.length = stepJ a ms js := by rw [kl, ← slen]; exact List.take_length
      rw [et] at hl
      have sF := same_unlock hd sm
      have hlF : (upd H7 d (.dK kvs)) dl = some (.lst ((g :: stepJ a ms js).map fun n : Nat => V.int (n : Int))) := by rw [upd_ne nld]; exact hl
      exact ⟨.ref dl, rfl, dl, _, rfl, .inl ⟨SqL.of hlF, fun q9 nq9 => q _ q9 (sF.trans (same_upd nq9)) (sF.free nq9) ⟨q9, _, rfl, upd_same, natp⟩⟩⟩
end
end PL
namespace PL
open PySem PySem.Spec PyProof.Rows L2
/-- where the table and the machines are after a run -/
def RJ (T : Tbl) (ms : Ms) (r : List Act) (l : List Nat) : Prop := ∃ s js, l = s :: js ∧ T.walk r = some s ∧ Paired (fun (x : Str × Tbl) j => x.2.walk (vw r x.1) = some j) ms js
def Differ (T : Tbl) (r r' : List Act) : Prop := T.walk r ≠ T.walk r' ∨ ∃ p, Occ T p ∧ ¬ ∀ s, Kn T p (vw r p) s ↔ Kn T p (vw r' p) s
/-- more than 3000 joint states -/
def Many (T : Tbl) : Prop := ∃ L : List (List Act), L.length = 3001 ∧ (∀ r ∈ L, ∃ s, T.walk r = some s) ∧ L.Pairwise (Differ T)
theorem pair_fn {α β : Type} {F : α → β → Prop} : ∀ {l : List α} {a b : List β}, Paired F l a → Paired F l b → (∀ x y z, F x y → F x z → y = z) → a = b
  | _, _, _, .nil, .nil, _ => rfl
  | _, _, _, .cons h t, .cons h' t', f => by rw [f _ _ _ h h', pair_fn t t' f]
theorem pair_fn2 {α β : Type} {F G : α → β → Prop} : ∀ {l : List α} {a b : List β}, Paired F l a → Paired G l b → (∀ x ∈ l, ∀ y z, F x y → G x z → y = z) → a = b
  | _, _, _, .nil, .nil, _ => rfl
  | _, _, _, .cons h t, .cons h' t', f => by rw [f _ List.mem_cons_self _ _ h h', pair_fn2 t t' fun x hx => f x (List.mem_cons_of_mem _ hx)]
theorem RJ.fn {T : Tbl} {ms : Ms} {r : List Act} {l l' : List Nat} (h : RJ T ms r l) (h' : RJ T ms r l') : l = l' := by
  obtain ⟨s, js, rfl, h1, h2⟩ := h
  obtain ⟨s', js', rfl, h1', h2'⟩ := h'
  rw [h1] at h1'
  cases h1'
  rw [pair_fn h2 h2' fun x y z a b => by rw [a] at b; exact Option.some.inj b]
theorem differ_of {T : Tbl} {ms : Ms} (hm : MsOk T ms) {r r' : List Act} {l l' : List Nat} (h : RJ T ms r l) (h' : RJ T ms r' l') (ne : l ≠ l') : Differ T r r' := by
  by_cases d : Differ T r r'
  · exact d
  · exfalso
    obtain ⟨s, js, rfl, h1, h2⟩ := h
    obtain ⟨s', js', rfl, h1', h2'⟩ := h'
    have e1 : T.walk r = T.walk r' := Classical.not_not.mp fun z => d (.inl z)
    rw [h1, h1'] at e1
    have e2 := Option.some.inj e1
    refine ne ?_
    rw [e2, pair_fn2 h2 h2' fun x hx y z a b => ?_]
    refine (hm.mach x hx).same _ _ _ _ a b fun s => ?_
    exact Classical.not_not.mp fun z => d (.inr ⟨x.1, (hm.mem x.1).mp (List.mem_map.mpr ⟨x, hx, rfl⟩), fun w => z (w s)⟩)
theorem walk_lt {T : Tbl} (hok : T.OK) {r : List Act} {s : Nat} (h : T.walk r = some s) : s < T.rows.length := kn_lt hok (p := (default : Str)) ⟨r, h, rfl⟩
theorem vw_one {r : List Act} {a : Act} {p : Str} (h : conc a p = true) : vw (r ++ [a]) p = vw r p ++ [a] := by rw [vw_snoc, if_pos h]
theorem vw_zero {r : List Act} {a : Act} {p : Str} (h : ¬ conc a p = true) : vw (r ++ [a]) p = vw r p := by rw [vw_snoc, if_neg h]
/-- a step of all -/
theorem RJ.step {T : Tbl} {ms : Ms} (hm : MsOk T ms) {r : List Act} {s : Nat} {js : List Nat} {a : Act} {g : Nat} (h : RJ T ms r (s :: js)) (hg : T.next s a = some g) : RJ T ms (r ++ [a]) (g :: stepJ a ms js) ∧
    ∀ (i : Nat) x j, ms[i]? = some x → js[i]? = some j → j < x.2.rows.length ∧ (conc a x.1 = true → ∃ j', x.2.next j a = some j') := by
  obtain ⟨s0, js0, e, h1, h2⟩ := h
  cases e
  have hw : T.walk (r ++ [a]) = some g := by rw [walk_snoc, h1]; exact hg
  have one : ∀ x ∈ ms, ∀ j, x.2.walk (vw r x.1) = some j → conc a x.1 = true → ∃ j', x.2.next j a = some j' ∧ x.2.walk (vw (r ++ [a]) x.1) = some j' := by
    intro x hx j hj hc
    obtain ⟨j', hj'⟩ := (hm.mach x hx).of (vw (r ++ [a]) x.1) g ⟨r ++ [a], hw, rfl⟩
    refine ⟨j', ?_, hj'⟩
    rw [vw_one hc, walk_snoc, hj] at hj'
    exact hj'
  refine ⟨⟨g, _, rfl, hw, ?_⟩, fun i x j hx hj => ?_⟩
  · unfold stepJ
    have gen : ∀ {ms1 : Ms} {js1 : List Nat}, (∀ x ∈ ms1, x ∈ ms) → Paired (fun (x : Str × Tbl) j => x.2.walk (vw r x.1) = some j) ms1 js1 →
        Paired (fun (x : Str × Tbl) j => x.2.walk (vw (r ++ [a]) x.1) = some j) ms1 (List.zipWith (fun (x : Str × Tbl) j => if conc a x.1 = true then (x.2.next j a).getD 0 else j) ms1 js1) := by
      intro ms1 js1 sub p
      induction p with
      | nil => exact .nil
      | @cons x j xs ys hj t ih =>
        rw [List.zipWith_cons_cons]
        refine .cons ?_ (ih fun y hy => sub y (List.mem_cons_of_mem _ hy))
        by_cases hc : conc a x.1 = true
        · rw [if_pos hc]
          obtain ⟨j', e1, e2⟩ := one x (sub x List.mem_cons_self) j hj hc
          rw [e1]
          exact e2
        · rw [if_neg hc, vw_zero hc]
          exact hj
    exact gen (fun _ h => h) h2
  · obtain ⟨j2, e1, e2⟩ := pget h2 hx
    rw [hj] at e1
    cases e1
    have hxm := List.mem_of_getElem? hx
    refine ⟨walk_lt (hm.mach x hxm).ok e2, fun hc => ?_⟩
    obtain ⟨j', e3, _⟩ := one x hxm j e2 hc
    exact ⟨j', e3⟩
abbrev Jr := List (List Nat × List Act)
abbrev RJs : Rl Jr := RLst (RPr (RTup RNat) RRun)
structure JsOk (T : Tbl) (ms : Ms) (jr : Jr) : Prop where
  all : ∀ x ∈ jr, RJ T ms x.2 x.1
  cov : ∀ r s, T.walk r = some s → ∃ x ∈ jr, RJ T ms r x.1
  len : jr.length ≤ 3000
  runs : ∀ x ∈ jr, x.2.length ≤ 3000
abbrev sJs : Stmt := topS 25
abbrev nJs : List Str := ["table", "machines", "start", "found", "order", "at", "joint", "run", "action", "_", "goal"]
theorem scJs : FnScope nJs ["table"] (defScope sJs) := ⟨rfl, rfl, rfl, by decide +kernel, rfl, by decide +kernel, by decide +kernel⟩
def spJs (C : Addr) : Sp := fun vs H Q E => ∃ x T, vs = [x] ∧ RTbl H x T ∧ Good T ∧
  (∀ (H' : Hp) (q : Addr) (ms : Ms) (jr : Jr), Same H H' → H q = none → RJs H' (.ref q) jr → MsOk T ms → JsOk T ms jr → Q (.ref q) H') ∧ (Many T → ∀ H', Same H H' → E (.ref C) none H')
/-- an entry, its run apart from the list of all -/
def RJo (d : Addr) : Rl (List Nat × List Act) := fun H v x => ∃ t pj pr vs, v = .ref t ∧ H t = some (.tup [pj, .ref pr]) ∧ RTup RNat H pj x.1 ∧ pr ≠ d ∧ H pr = some (.lst vs) ∧ Paired (RAct H) vs x.2
theorem RJo.keep {d : Addr} {H H' : Hp} {v : V} {x : List Nat × List Act} (h : RJo d H v x) (k : ∀ b o, b ≠ d → H b = some o → H' b = some o) (t : TSm H H') : RJo d H' v x :=
  let ⟨q, pj, pr, vs, e, h1, h2, n, h3, h4⟩ := h
  ⟨q, pj, pr, vs, e, t _ _ h1, RTup.tm RNat.tm _ _ _ _ t h2, n, k _ _ n h3, RAct.tm.ps t h4⟩
/-- the facts of the list, any heap -/
structure JI (T : Tbl) (ms : Ms) (i : Nat) (jr : Jr) : Prop where
  all : ∀ x ∈ jr, RJ T ms x.2 x.1
  nd : (jr.map (·.1)).Nodup
  le : i ≤ jr.length
  len : jr.length ≤ 3000
  runs : ∀ (k : Nat) x, jr[k]? = some x → x.2.length ≤ k
  first : ∃ x, jr[0]? = some x ∧ RJ T ms [] x.1
  clo : ∀ (k : Nat) s js r, k < i → jr[k]? = some (s :: js, r) → ∀ a g, T.next s a = some g → g :: stepJ a ms js ∈ jr.map (·.1)
theorem JI.done {T : Tbl} {ms : Ms} (hm : MsOk T ms) {jr : Jr} (h : JI T ms jr.length jr) : JsOk T ms jr := by
  refine ⟨h.all, ?_, h.len, fun x hx => ?_⟩
  · have gen : ∀ (n : Nat) (r : List Act) s, r.length = n → T.walk r = some s → ∃ x ∈ jr, RJ T ms r x.1 := by
      intro n
      induction n with
      | zero =>
        intro r s hr hw
        have : r = [] := List.eq_nil_of_length_eq_zero hr
        subst this
        obtain ⟨x, h1, h2⟩ := h.first
        exact ⟨x, List.mem_of_getElem? h1, h2⟩
      | succ n ih =>
        intro r s hr hw
        have hne : r ≠ [] := fun e => by rw [e] at hr; cases hr
        obtain ⟨r', a, rfl⟩ : ∃ r' a, r = r' ++ [a] := ⟨r.dropLast, r.getLast hne, (List.dropLast_concat_getLast hne).symm⟩
        rw [List.length_append, List.length_singleton] at hr
        rw [walk_snoc] at hw
        cases hw' : T.walk r' with
        | none => rw [hw'] at hw; cases hw
        | some s' =>
          rw [hw'] at hw
          have hw : T.next s' a = some s := hw
          obtain ⟨x, hx, hJ⟩ := ih r' s' (by omega) hw'
          obtain ⟨s2, js, e, e1, e2⟩ := id hJ
          rw [hw'] at e1
          cases e1
          obtain ⟨k, hk, ek⟩ := List.getElem_of_mem hx
          have hc := h.clo k s' js x.2 hk (by rw [List.getElem?_eq_getElem hk, ek]; exact congrArg some (Prod.ext e rfl)) a s hw
          obtain ⟨y, hy, ey⟩ := List.mem_map.mp hc
          refine ⟨y, hy, ?_⟩
          rw [ey]
          rw [e] at hJ
          exact (hJ.step hm hw).1
    exact fun r s hw => gen r.length r s rfl hw
  · obtain ⟨k, hk, ek⟩ := List.getElem_of_mem hx
    have h1 := h.runs k x (by rw [List.getElem?_eq_getElem hk, ek])
    have h2 := h.len
    omega
theorem jr_many {T : Tbl} {ms : Ms} (hm : MsOk T ms) {jr : Jr} (all : ∀ x ∈ jr, RJ T ms x.2 x.1) (nd : (jr.map (·.1)).Nodup) (len : jr.length = 3000) {r : List Act} {l : List Nat} (hr : RJ T ms r l) (hl : l ∉ jr.map (·.1)) : Many T := by
  refine ⟨jr.map (·.2) ++ [r], by rw [List.length_append, List.length_map, len]; rfl, fun x hx => ?_, ?_⟩
  · rcases List.mem_append.mp hx with hx | hx
    · obtain ⟨y, hy, rfl⟩ := List.mem_map.mp hx
      obtain ⟨s, _, _, h, _⟩ := all y hy
      exact ⟨s, h⟩
    · have : x = r := by simpa using hx
      subst this
      obtain ⟨s, _, _, h, _⟩ := hr
      exact ⟨s, h⟩
  · rw [List.pairwise_append]
    refine ⟨?_, List.pairwise_singleton _ _, fun x hx y hy => ?_⟩
    · rw [List.pairwise_map]
      have nd : jr.Pairwise (fun x y => x.1 ≠ y.1) := List.pairwise_map.mp nd
      exact nd.imp_of_mem fun {x y} hx hy n => differ_of hm (all x hx) (all y hy) n
    · obtain ⟨z, hz, rfl⟩ := List.mem_map.mp hx
      have : y = r := by simpa using hy
      subst this
      exact differ_of hm (all z hz) hr fun e => hl (by rw [← e]; exact List.mem_map.mpr ⟨z, hz, rfl⟩)
end PL
namespace PL
open PySem PySem.Spec PyProof.Rows L2
theorem flat_rep {x : V} : ∀ n : Nat, (List.replicate n [x]).flatten = List.replicate n x
  | 0 => rfl
  | n + 1 => by rw [List.replicate_succ, List.flatten_cons, flat_rep n]; rfl
theorem start_RJ (T : Tbl) : ∀ ms : Ms, RJ T ms [] (0 :: List.replicate ms.length 0) := fun ms => by
  refine ⟨0, _, rfl, rfl, ?_⟩
  induction ms with
  | nil => exact .nil
  | cons x ms ih => exact .cons rfl ih
theorem mem_keys {κ α : Type} [DecidableEq κ] {kvs : List (κ × V)} {l : List α} {f : α → κ} (h : kvs.map (·.1) = l.map f) (hf : ∀ a b, f a = f b → a = b) (x : α) : (valV kvs (f x)).isSome = true ↔ x ∈ l := by
  rw [← valV_any, List.any_eq_true]
  simp only [decide_eq_true_eq]
  have : (∃ kv ∈ kvs, kv.1 = f x) ↔ f x ∈ kvs.map (·.1) := by simp [List.mem_map]
  rw [this, h, List.mem_map]
  exact ⟨fun ⟨a, h1, h2⟩ => hf _ _ h2 ▸ h1, fun h => ⟨_, h, rfl⟩⟩
section
variable {P : Program} {w : World} {K : PySem.W.Frag} {mg : Str → Option Value} {base : Heap}
theorem ok_js {f fM fN C : Addr} {fd fdM fdN : FuncData} {k : Nat} {t3 : Tok} {bmB : List Value} {B newId initId : String} (F : Fun K "joint_states" "joint_states" sJs f fd)
    (GM : FnOk P w K mg base CX0 k fM fdM ["table"] spMsof) (kM : PySem.W.keepIn K (.ref fM) = true) (bM : Binds K fdM ["table"] []) (gM : mg "machines_of" = some (.ref fM))
    (GN : FnOk P w K mg base CX0 k fN fdN ["table", "machines", "joint", "action"] spNj) (kN : PySem.W.keepIn K (.ref fN) = true) (bN : Binds K fdN ["table", "machines", "joint", "action"] []) (gN : mg "next_joint" = some (.ref fN))
    (EF : ExcBaseFacts B newId initId bmB) (eC : PySem.W.excIn K C bmB newId = true) (gC : mg "TooLarge" = some (.ref C)) (kC : PySem.W.keepIn K (.ref C) = true) (sC : PySem.W.subIn K (.ref C) (.type "BaseException") = some true) (tC : PySem.W.typeIn K (.ref C) = some (.type "type"))
    (mT : mg "tuple" = none) (mL : mg "len" = none) (m3 : mg "MOST_JOINT" = some (.int 3000 t3)) : FnOk P w K mg base (L2.CX P w) (k + 1) f fd ["table"] (spJs C) := by
  refine F.okX scJs (fun vs H Q E h => ?_) (fun cdv A outer s0 H vs Q E hr h => ?_)
  · obtain ⟨x, T, rfl, _⟩ := h
    rfl
  · obtain ⟨x, T, rfl, hT, hgood, q, eX⟩ := h
    have hu := hu_of hr
    have nd := scJs.nd
    have hok := hgood.ok
    refine ⟨_, pss_cons (ps_set (i := 1) nd rfl (.inl rfl) (pe_call GM hr (by rfl) gM kM bM .nil pass0 (pa_cons (pv 0) pa_nil)))
      (pss_cons (ps_set (i := 2) nd rfl (.inl rfl) (pe_callTy (cr_tup (K := K) rfl) (by rfl) mT (by decide +kernel) (pa_cons (pe_op op_rep (pe_lst (pa_cons pe_int pa_nil)) (pe_add (pe_callB call_lenD (by rfl) mL (by decide +kernel) (pa_cons (pv 1) pa_nil)) pe_int)) pa_nil)))
      (pss_cons (ps_set (i := 3) nd rfl (.inl rfl) (pe_disp1T hr.units (pv 2) pe_bl))
      (pss_cons (ps_set (i := 4) nd rfl (.inl rfl) (pe_lst (pa_cons (pe_tup (pa_cons (pv 2) (pa_cons (pe_lst pa_nil) pa_nil))) pa_nil)))
      (pss_cons (ps_set (i := 5) nd rfl (.inl rfl) pe_int)
      (pss_cons (ps_while (passes_of rfl) (pt_cmp (pc_lt (pv 5) (pe_callB call_len_seq (by rfl) mL (by decide +kernel) (pa_cons (pv 4) pa_nil))))
        (pss_cons (ps_asg (pe_ix ix_list (pv 4) (pv 5) (fun _ _ => rfl)) (pg_tup rfl (pgs_cons (pg_name (i := 6) nd rfl (.inl rfl)) (pgs_cons (pg_name (i := 7) nd rfl (.inl rfl)) pgs_nil))))
        (pss_cons (ps_aug (i := 5) nd rfl (.inl rfl) pe_int ip_add)
        (pss_one (ps_for (passes_of rfl) rfl (pi_tup (pe_ix ix_tup (pe_ix ix_tup (pv 0) pe_int (fun _ _ => rfl)) (pe_ix ix_tup (pv 6) pe_int (fun _ _ => rfl)) (fun _ _ => rfl))) (pg_tup rfl (pgs_cons (pg_name (i := 8) nd rfl (.inl rfl)) (pgs_cons (pg_name (i := 9) nd rfl (.inl rfl)) pgs_nil)))
          (pss_cons (ps_set (i := 10) nd rfl (.inl rfl) (pe_call GN hr (by rfl) gN kN bN .nil pass0 (pa_cons (pv 0) (pa_cons (pv 1) (pa_cons (pv 6) (pa_cons (pv 8) pa_nil))))))
          (pss_one (ps_if (pt_cmp (pc_dnotin hu (pv 10) (pv 3)))
            (pss_cons (ps_if (pt_cmp (pc_eqI (pe_callB call_len_seq (by rfl) mL (by decide +kernel) (pa_cons (pv 4) pa_nil)) (pe_glob (v := .int 3000) (by rfl) m3 ⟨_, rfl⟩)))
              (pss_one (ps_raise rfl (takes_of rfl rfl rfl rfl) (pmk_own0 EF eC gC kC (raises_own sC tC) (by rfl)))) pss_nil)
            (pss_cons (ps_dput hu (pv 3) (pv 10) pe_bl rfl)
            (pss_one (ps_expr (pe_bm PySem.F.plainAttrs_list PySem.F.slot_list_append PySem.F.type_list_append mt_append (pv 4) (pa_cons (pe_tup (pa_cons (pv 10) (pa_cons (pe_op op_cat (pv 7) (pe_lst (pa_cons (pv 8) pa_nil))) pa_nil))) pa_nil))))))
            pss_nil))))))))
      (pss_one (ps_ret (pv 4)))))))), ?_⟩
    obtain ⟨pt, vr, ve, rfl, hpt, ⟨pr, vrs, rfl, hpr, prs⟩, _⟩ := id hT
    refine ⟨_, rfl, _, T, rfl, hT, hgood, fun H1 dm ms s1 ndm hms hm => ?_⟩
    obtain ⟨dm', kvm, em, hdm, hpm⟩ := id hms
    cases em
    have kml := plen hpm
    have hml := hm.len
    refine ⟨Nat.le_of_ble_eq_true rfl, fun l0 nl0 => ?_⟩
    have sA := same_upd (o := .lst [.int 0]) nl0
    refine ⟨_, rfl, dm, kvm, rfl, sA _ _ hdm, _, _, rfl, rfl, l0, _, _, rfl, rfl, upd_same, by omega, by omega, by simp only [List.length_singleton]; rw [sizeLine_eq]; omega, fun l1 nl1 => ?_⟩
    refine ⟨l1, _, rfl, .inl ⟨SqL.of upd_same, fun pst npst => ?_⟩⟩
    have ekn : (((kvm.length : Nat) : Int) + 1).toNat = ms.length + 1 := by omega
    rw [ekn, flat_rep] at npst ⊢
    obtain ⟨H2, eH2⟩ : ∃ H2, H2 = upd (upd (upd H1 l0 (.lst [.int 0])) l1 (.lst (List.replicate (ms.length + 1) (.int 0)))) pst (.tup (List.replicate (ms.length + 1) (.int 0))) := ⟨_, rfl⟩
    rw [← eH2]
    have s12 : Same H1 H2 := by rw [eH2]; exact (sA.trans (same_upd nl1)).trans (same_upd npst)
    let st : List Nat := 0 :: List.replicate ms.length 0
    have hst : RTup RNat H2 (.ref pst) st := by
      refine ⟨pst, _, rfl, by rw [eH2, upd_same], ?_⟩
      have e : List.replicate (ms.length + 1) (V.int 0) = st.map fun n : Nat => V.int (n : Int) := by
        show _ = V.int 0 :: (List.replicate ms.length 0).map _
        rw [List.map_replicate, List.replicate_succ]
        rfl
      rw [e]
      exact natp
    intro df ndf
    have sB := same_upd (o := .dT []) ndf
    refine ⟨_, rfl, pst, keyL st, rfl, upd_same, sB _ _ (RTup.key hst), ?_⟩
    have h1f : H1 df = none := s12.free ndf
    obtain ⟨H3, eH3⟩ : ∃ H3, H3 = upd (upd H2 df (.dT [])) df (.dT [(keyL st, .bl true)]) := ⟨_, rfl⟩
    rw [← eH3]
    have s23 : Same H2 H3 := by rw [eH3]; exact same_re sB ndf
    have hdf3 : H3 df = some (.dT [(keyL st, .bl true)]) := by rw [eH3, upd_same]
    refine ⟨_, rfl, Nat.le_of_ble_eq_true rfl, fun lr nlr => ⟨Nat.le_of_ble_eq_true rfl, fun t0 nt0 => ⟨Nat.le_of_ble_eq_true rfl, fun d4 nd4 => ?_⟩⟩⟩
    have sC := same_upd (o := .lst []) nlr
    have sD := sC.trans (same_upd (o := .tup [.ref pst, .ref lr]) nt0)
    have sE := sD.trans (same_upd (o := .lst [.ref t0]) nd4)
    have h14 : H1 d4 = none := (s12.trans (s23.trans sD)).free nd4
    have df4 : df ≠ d4 := fun e => by rw [← e, sD _ _ hdf3] at nd4; cases nd4
    have lr4 : lr ≠ d4 := fun e => by rw [← e, same_upd nt0 _ _ upd_same] at nd4; cases nd4
    refine ⟨fun m σ H' => ∃ i jr y6 y7 y8 y9 y10, σ = [some (.ref pt), some (.ref dm), some (.ref pst), some (.ref df), some (.ref d4), some (.int ((i : Nat) : Int)), y6, y7, y8, y9, y10] ∧ Same H1 H' ∧ JI T ms i jr ∧ (∃ kvs, H' df = some (.dT kvs) ∧ kvs.map (·.1) = (jr.map (·.1)).map keyL) ∧ (∃ ovs, H' d4 = some (.lst ovs) ∧ Paired (RJo d4 H') ovs jr) ∧ m = 3000 - i,
      ⟨_, 0, [(st, [])], none, none, none, none, none, rfl, s12.trans (s23.trans sE), ⟨?_, by simp, by simp, by simp, ?_, ⟨_, rfl, start_RJ T ms⟩, fun k s js r hk => absurd hk (Nat.not_lt_zero k)⟩, ⟨_, sE _ _ hdf3, rfl⟩, ⟨_, upd_same, .cons ⟨t0, .ref pst, lr, [], rfl, same_upd nd4 _ _ upd_same, RTup.mono RNat.mono _ _ _ _ (s23.trans sE) hst, lr4, same_upd nd4 _ _ (same_upd nt0 _ _ upd_same), .nil⟩ .nil⟩, rfl⟩, ?_⟩
    · intro x hx
      have : x = (st, []) := by simpa using hx
      subst this
      exact start_RJ T ms
    · intro k x hk
      have := List.mem_of_getElem? hk
      have : x = (st, []) := by simpa using this
      subst this
      exact Nat.zero_le _
    rintro m σ Ht ⟨i, jr, y6, y7, y8, y9, y10, rfl, sm, hJ, ⟨fk, hdf, hfk⟩, ⟨ovs, hd4, hov⟩, rfl⟩
    have hol := plen hov
    have hjl := hJ.len
    have hil := hJ.le
    refine ⟨_, rfl, _, rfl, d4, ovs, rfl, .inl (SqL.of hd4), _, _, rfl, rfl, _, rfl, ?_⟩
    refine ite2 (fun e => ?_) (fun e => ?_)
    · have hi : i < jr.length := by
        have e2 : (i : Int) < ((ovs.length : Nat) : Int) := of_decide_eq_true e
        omega
      refine ⟨fun σ' H'' => ∃ m', m' < 3000 - i ∧ _, fun _ _ h => h, ?_⟩
      obtain ⟨⟨l, r⟩, hx⟩ : ∃ x, jr[i]? = some x := ⟨_, List.getElem?_eq_getElem hi⟩
      obtain ⟨v, hv, t, pjv, pl, rvs, rfl, ht, hpj, npl, hpl, hrv⟩ := pget' hov hx
      have hRJ := hJ.all _ (List.mem_of_getElem? hx)
      obtain ⟨s, js, el, hws, hjs⟩ := id hRJ
      have el : l = s :: js := el
      subst el
      have hws : T.walk r = some s := hws
      have hsl := walk_lt hok hws
      have hrun := hJ.runs i _ hx
      have hrun : r.length ≤ i := hrun
      obtain ⟨pj, jvs, rfl, hpjt, hjv⟩ := id hpj
      have ejv := pnat hjv
      subst ejv
      refine ⟨_, rfl, _, rfl, d4, ovs, _, _, rfl, rfl, SqL.of hd4, atI_nat hv, t, _, rfl, SqT.of ht, rfl, _, _, rfl, _, _, rfl, rfl, ?_⟩
      refine ⟨_, rfl, _, _, rfl, rfl, ?_⟩
      obtain ⟨row, hrow⟩ : ∃ row, T.rows[s]? = some row := ⟨_, List.getElem?_eq_getElem hsl⟩
      have hrm : row ∈ T.rows := List.mem_of_getElem? hrow
      obtain ⟨rv, hrvx, p5, vs5, rfl, hp5, prow⟩ := pget' prs hrow
      have s0t := s1.trans sm
      have jl := plen hjs
      refine ⟨.ref pt, rfl, pt, _, _, .ref pr, rfl, rfl, SqT.of (s0t _ _ hpt), atI_nat (j := 1) rfl, _, rfl, pj, _, _, .int (s : Int), rfl, rfl, SqT.of hpjt, atI_nat (j := 0) rfl, pr, _, _, .ref p5, rfl, rfl, SqT.of (s0t _ _ hpr), atI_nat hrvx, p5, rfl, ⟨_, SqT.of (s0t _ _ hp5)⟩,
        for_it (walk_tup (xs := vs5)) (fun j σ H7 => ∃ jr' y8 y9 y10, σ = [some (.ref pt), some (.ref dm), some (.ref pst), some (.ref df), some (.ref d4), some (.int (((i + 1 : Nat) : Nat) : Int)), some (.ref pj), some (.ref pl), y8, y9, y10] ∧ Same H1 H7 ∧ TSm Ht H7 ∧ H7 pl = some (.lst rvs) ∧ JI T ms i jr' ∧ jr <+: jr' ∧
            (∃ kvs, H7 df = some (.dT kvs) ∧ kvs.map (·.1) = (jr'.map (·.1)).map keyL) ∧ (∃ ovs, H7 d4 = some (.lst ovs) ∧ Paired (RJo d4 H7) ovs jr') ∧ ∀ p ∈ row.take j, p.2 :: stepJ p.1 ms js ∈ jr'.map (·.1))
        ⟨jr, _, _, _, rfl, sm, TSm.rfl, hpl, hJ, List.prefix_rfl, ⟨fk, hdf, hfk⟩, ⟨ovs, hd4, hov⟩, by simp⟩ (fun j σ H7 _ ⟨_, _, _, _, _, s7, _⟩ => SqT.of ((s1.trans s7) _ _ hp5)) ?_ ?_⟩
      · rintro j yv σ H7 H8 hj ⟨jr', y8, y9, y10, rfl, s7, t7, hpl7, hJ7, pre, ⟨fk7, hdf7, hfk7⟩, ⟨ov7, hd47, hov7⟩, hdone⟩ ⟨rfl, hyj⟩
        obtain ⟨pq, hpq, p6, va, vb, rfl, hp6, hva, hvb⟩ := pget prow hyj
        have hpqm : pq ∈ row := List.mem_of_getElem? hpq
        have hnx : T.next s pq.1 = some pq.2 := hok.next_of hrow hpqm
        have s07 := s1.trans s7
        obtain ⟨hstep, hbnd⟩ := hRJ.step hm hnx
        refine ⟨p6, _, rfl, SqT.of (s07 _ _ hp6), rfl, va, _, rfl, vb, _, rfl, rfl, ?_⟩
        refine ⟨_, rfl, _, rfl, _, rfl, _, rfl, _, _, _, va, T, ms, s, js, pq.1, pq.2, rfl, RTbl.mono _ _ _ _ s07 hT, RMs.mono _ _ _ _ s7 hms, hm.nd, hm.len, RTup.tm RNat.tm _ _ _ _ t7 hpj, RAct.mono _ _ _ _ s07 hva, jl.symm, hsl, hnx, hbnd, fun H9 pg s9 npg hpg => ?_⟩
        have hd49 := s9 _ _ hd47
        have hdf9 := s9 _ _ hdf7
        have hpl9 := s9 _ _ hpl7
        have keyg := RTup.key hpg
        have ov7l := plen hov7
        have hov9 : Paired (RJo d4 H9) ov7 jr' := pmono hov7 fun v x h => h.keep (fun b o _ h => s9 _ _ h) (Same.ts s9)
        have mk := mem_keys hfk7 keyL_inj (pq.2 :: stepJ pq.1 ms js)
        have fl7 : fk7.length = jr'.length := by have := congrArg List.length hfk7; simpa using this
        have hj7 := hJ7.len
        have takeIn : ∀ {jr2 : Jr}, jr' <+: jr2 → pq.2 :: stepJ pq.1 ms js ∈ jr2.map (·.1) → ∀ p ∈ row.take (j + 1), p.2 :: stepJ p.1 ms js ∈ jr2.map (·.1) := by
          intro jr2 pf hin p hp
          rw [take_snoc hpq] at hp
          rcases List.mem_append.mp hp with hp | hp
          · obtain ⟨y, hy, e⟩ := List.mem_map.mp (hdone p hp)
            exact List.mem_map.mpr ⟨y, pf.subset hy, e⟩
          · have : p = pq := by simpa using hp
            subst this
            exact hin
        refine ⟨_, rfl, _, rfl, df, _, rfl, DGet.t hdf9 keyg, _, rfl, ite2 (fun e1 => ?_) (fun e1 => ?_)⟩
        · have hnew : pq.2 :: stepJ pq.1 ms js ∉ jr'.map (·.1) := fun z => by
            rw [mk.mpr z] at e1
            cases e1
          refine ⟨_, rfl, d4, ov7, rfl, .inl (SqL.of hd49), _, _, rfl, rfl, _, rfl, ite2 (fun e2 => ?_) (fun e2 => ?_)⟩
          · have e3 : ((ov7.length : Nat) : Int) = (3000 : Int) := of_decide_eq_true e2
            exact eX (jr_many hm hJ7.all hJ7.nd (by omega) hstep hnew) H9 (s07.trans s9)
          have e3 : ¬ ((ov7.length : Nat) : Int) = (3000 : Int) := fun z => e2 (decide_eq_true z)
          have hvn : valV fk7 (keyL (pq.2 :: stepJ pq.1 ms js)) = none := by
            cases h : valV fk7 (keyL (pq.2 :: stepJ pq.1 ms js)) with
            | none => rfl
            | some v => exact absurd (mk.mp (by rw [h]; rfl)) hnew
          refine ⟨_, rfl, _, rfl, df, _, rfl, DPut.t hdf9 keyg (by rw [sizeLine_eq]; omega), ?_⟩
          rw [putK_new _ hvn]
          obtain ⟨Ha, eHa⟩ : ∃ Ha, Ha = upd H9 df (.dT (fk7 ++ [(keyL (pq.2 :: stepJ pq.1 ms js), .bl true)])) := ⟨_, rfl⟩
          rw [← eHa]
          have tA : TSm H9 Ha := by rw [eHa]; exact TSm.re hdf9 (fun _ => nofun)
          have kA : ∀ {b : Addr} {o : HO}, b ≠ df → H9 b = some o → Ha b = some o := fun n h => by rw [eHa, upd_ne n]; exact h
          have sA2 : Same H1 Ha := by rw [eHa]; exact same_re (s7.trans s9) h1f
          have hd4a := kA df4.symm hd49
          have npf : pl ≠ df := ne_of hpl9 hdf9 (fun z => nomatch z)
          have hpla := kA npf hpl9
          have hdfa : Ha df = some (.dT (fk7 ++ [(keyL (pq.2 :: stepJ pq.1 ms js), .bl true)])) := by rw [eHa, upd_same]
          refine ⟨.ref d4, rfl, .inl ⟨rfl, _, .inl (.inl hd4a)⟩, _, rfl, _, rfl, _, rfl, Nat.le_of_ble_eq_true rfl, fun la nla => ?_⟩
          have rl : rvs.length ≤ 3000 := by
            have := plen hrv
            have h2 : rvs.length = r.length := this
            omega
          have sLa := same_upd (o := .lst [va]) nla
          refine ⟨pl, la, rvs, [va], rfl, rfl, sLa _ _ hpla, upd_same, by rw [sizeLine_eq]; simp only [List.length_singleton]; omega, fun lb nlb => ⟨Nat.le_of_ble_eq_true rfl, fun tn ntn => ?_⟩⟩
          have sLb := sLa.trans (same_upd (o := .lst (rvs ++ [va])) nlb)
          have sTn := sLb.trans (same_upd (o := .tup [.ref pg, .ref lb]) ntn)
          refine ⟨d4, ov7, _, rfl, rfl, sTn _ _ hd4a, by rw [sizeLine_eq]; omega, ?_⟩
          obtain ⟨Hb, eHb⟩ : ∃ Hb, Hb = upd (upd (upd Ha la (.lst [va])) lb (.lst (rvs ++ [va]))) tn (.tup [.ref pg, .ref lb]) := ⟨_, rfl⟩
          rw [← eHb] at sTn ⊢
          have hd4b := sTn _ _ hd4a
          have tF : TSm Hb (upd Hb d4 (.lst (ov7 ++ [.ref tn]))) := TSm.re hd4b (fun _ => nofun)
          have kF : ∀ {b : Addr} {o : HO}, b ≠ d4 → Hb b = some o → (upd Hb d4 (.lst (ov7 ++ [.ref tn]))) b = some o := fun n h => by rw [upd_ne n]; exact h
          have t9F : TSm H9 (upd Hb d4 (.lst (ov7 ++ [.ref tn]))) := (tA.trans (Same.ts sTn)).trans tF
          have ndlb : lb ≠ d4 := fun e => by rw [e, sLa _ _ hd4a] at nlb; cases nlb
          have hlb : Hb lb = some (.lst (rvs ++ [va])) := by rw [eHb]; exact same_upd ntn _ _ upd_same
          have htn : Hb tn = some (.tup [.ref pg, .ref lb]) := by rw [eHb, upd_same]
          have hva7 : RAct H9 va pq.1 := RAct.mono _ _ _ _ (s07.trans s9) hva
          have hrv9 : Paired (RAct H9) rvs r := RAct.tm.ps (t7.trans (Same.ts s9)) hrv
          have pre2 : jr' <+: jr' ++ [(pq.2 :: stepJ pq.1 ms js, r ++ [pq.1])] := List.prefix_append _ _
          have inn : pq.2 :: stepJ pq.1 ms js ∈ (jr' ++ [(pq.2 :: stepJ pq.1 ms js, r ++ [pq.1])]).map (·.1) := by simp
          refine ⟨jr' ++ [(pq.2 :: stepJ pq.1 ms js, r ++ [pq.1])], _, _, _, rfl, same_re (sA2.trans sTn) h14, (t7.trans (Same.ts s9)).trans t9F, kF npl (sTn _ _ hpla), ?_, pre.trans pre2, ⟨_, kF df4 (sTn _ _ hdfa), ?_⟩, ⟨_, upd_same, psnoc ?_ ?_⟩, takeIn pre2 inn⟩
          · refine ⟨fun x hx => ?_, ?_, ?_, ?_, fun k x hk => ?_, ?_, ?_⟩
            · rcases List.mem_append.mp hx with hx | hx
              · exact hJ7.all x hx
              · have : x = (pq.2 :: stepJ pq.1 ms js, r ++ [pq.1]) := by simpa using hx
                subst this
                exact hstep
            · rw [List.map_append]
              refine List.nodup_append.mpr ⟨hJ7.nd, by simp, fun a ha b hb e => ?_⟩
              have : b = pq.2 :: stepJ pq.1 ms js := by simpa using hb
              subst this
              exact hnew (e ▸ ha)
            · have := hJ7.le
              rw [List.length_append]
              omega
            · rw [List.length_append, List.length_singleton]
              omega
            · by_cases hkl : k < jr'.length
              · rw [List.getElem?_append_left hkl] at hk
                exact hJ7.runs k x hk
              · have h1 := List.mem_of_getElem? hk
                rw [List.getElem?_append_right (by omega)] at hk
                have : x = (pq.2 :: stepJ pq.1 ms js, r ++ [pq.1]) := by simpa using List.mem_of_getElem? hk
                subst this
                have h2 := pre.length_le
                show (r ++ [pq.1]).length ≤ k
                rw [List.length_append, List.length_singleton]
                omega
            · obtain ⟨x, h1, h2⟩ := hJ7.first
              exact ⟨x, pre_get pre2 h1, h2⟩
            · intro k s' js' r' hk hx' a g hg
              have hkl : k < jr'.length := by have := hJ7.le; omega
              rw [List.getElem?_append_left hkl] at hx'
              obtain ⟨y, hy, e⟩ := List.mem_map.mp (hJ7.clo k s' js' r' hk hx' a g hg)
              exact List.mem_map.mpr ⟨y, pre2.subset hy, e⟩
          · rw [List.map_append, hfk7, List.map_append, List.map_append]
            rfl
          · refine Paired.mapP hov9 ?_
            intro v x h
            obtain ⟨q1, q2, q3, q4, e, h1, h2, n, h3, h4⟩ := h
            have nqf : q3 ≠ df := ne_of h3 hdf9 (fun z => nomatch z)
            exact ⟨q1, q2, q3, q4, e, t9F _ _ h1, RTup.tm RNat.tm _ _ _ _ t9F h2, n, kF n (sTn _ _ (kA nqf h3)), RAct.tm.ps t9F h4⟩
          · exact ⟨tn, .ref pg, lb, rvs ++ [va], rfl, tF _ _ htn, RTup.tm RNat.tm _ _ _ _ t9F hpg, ndlb, kF ndlb hlb, psnoc (RAct.tm.ps t9F hrv9) (RAct.tm _ _ _ _ t9F hva7)⟩
        · have hin : pq.2 :: stepJ pq.1 ms js ∈ jr'.map (·.1) := by
            refine mk.mp ?_
            cases h : (valV fk7 (keyL (pq.2 :: stepJ pq.1 ms js))).isSome with
            | true => rfl
            | false => rw [h] at e1; exact absurd rfl e1
          exact ⟨jr', _, _, _, rfl, s7.trans s9, t7.trans (Same.ts s9), hpl9, hJ7, pre, ⟨fk7, hdf9, hfk7⟩, ⟨ov7, hd49, hov9⟩, takeIn List.prefix_rfl hin⟩
      · rintro σ H7 ⟨jr', y8, y9, y10, rfl, s7, t7, hpl7, hJ7, pre, hf7, ho7, hdone⟩
        have et : row.take vs5.length = row := by rw [plen prow]; exact List.take_length
        rw [et] at hdone
        have hpl2 := pre.length_le
        refine ⟨3000 - (i + 1), by omega, i + 1, jr', _, _, _, _, _, rfl, s7, ⟨hJ7.all, hJ7.nd, by omega, hJ7.len, hJ7.runs, hJ7.first, fun k s' js' r' hk hx' a g hg => ?_⟩, hf7, ho7, rfl⟩
        by_cases hki : k < i
        · exact hJ7.clo k s' js' r' hki hx' a g hg
        · have : k = i := by omega
          subst this
          have e2 := pre_get pre hx
          rw [e2] at hx'
          cases hx'
          obtain ⟨row', q1, q2⟩ := Tbl.OK.of_next hg
          rw [hrow] at q1
          cases q1
          exact hdone _ q2
    · have hi : i = jr.length := by
        have e2 : ¬ (i : Int) < ((ovs.length : Nat) : Int) := fun z => e (decide_eq_true z)
        omega
      subst hi
      refine ⟨_, rfl, q Ht d4 ms jr (s1.trans sm) (s1.free h14) ⟨d4, ovs, rfl, hd4, pmono hov fun v x ⟨t, pj, pr, vs, e, h1, h2, _, h3, h4⟩ => ⟨t, pj, .ref pr, e, h1, h2, pr, vs, rfl, h3, h4⟩⟩ hm (hJ.done hm)⟩
end
end PL
namespace PL
open PySem PySem.Spec PyProof.Rows L2
abbrev sSeen : Stmt := topS 27
abbrev nSeen : List Str := ["table", "party", "sight", "wanted", "waiting", "found", "at", "state", "count", "run", "action", "goal", "ahead"]
theorem scSeen : FnScope nSeen ["table", "party", "sight", "wanted"] (defScope sSeen) := ⟨rfl, rfl, rfl, by decide +kernel, rfl, by decide +kernel, by decide +kernel⟩
def RW : Rl (Option Act) := fun H v a => match a with
  | none => v = .non
  | some a => RAct H v a
theorem RW.mono : Mono RW := fun _ _ _ a s h => match a, h with
  | none, h => h
  | some _, h => RAct.mono _ _ _ _ s h
def spSeen : Sp := fun vs H Q _ => ∃ x p y z T r a, vs = [x, .str p, y, z] ∧ RTbl H x T ∧ T.OK ∧ T.rows.length ≤ 60 ∧ RRun H y r ∧ r.length ≤ 3000 ∧ RW H z a ∧ ∀ (H' : Hp) (v : V), Same H H' → Q v H'
def keyP (x : Nat × Nat) : List L2.Key := [keyN x.1, keyN x.2]
theorem keyP_inj : ∀ a b, keyP a = keyP b → a = b := fun a b e => by
  simp only [keyP, List.cons.injEq, and_true] at e
  exact Prod.ext (keyN_inj _ _ e.1) (keyN_inj _ _ e.2)
theorem pairs_len {n m : Nat} {l : List (Nat × Nat)} (nd : l.Nodup) (h : ∀ x ∈ l, x.1 < n ∧ x.2 ≤ m) : l.length ≤ n * (m + 1) := by
  have := lt_len (l := l.map fun x => x.1 * (m + 1) + x.2) (n := n * (m + 1)) (map_nodup_on nd fun a ha b hb e => ?_) fun x hx => ?_
  · rwa [List.length_map] at this
  · have h1 := h a ha
    have h2 := h b hb
    have e1 : a.1 = b.1 := by
      rcases Nat.lt_trichotomy a.1 b.1 with q | q | q
      · have := Nat.mul_le_mul_right (m + 1) (show a.1 + 1 ≤ b.1 from q)
        rw [Nat.add_mul, Nat.one_mul] at this
        omega
      · exact q
      · have := Nat.mul_le_mul_right (m + 1) (show b.1 + 1 ≤ a.1 from q)
        rw [Nat.add_mul, Nat.one_mul] at this
        omega
    rw [e1] at e
    exact Prod.ext e1 (by omega)
  · obtain ⟨a, ha, rfl⟩ := List.mem_map.mp hx
    have h1 := h a ha
    have := Nat.mul_le_mul_right (m + 1) (show a.1 + 1 ≤ n from h1.1)
    rw [Nat.add_mul, Nat.one_mul] at this
    omega
/-- an entry: a state, a count, a run apart from the list of all -/
def RWo (d : Addr) : Rl ((Nat × Nat) × List Act) := fun H v x => ∃ t pr vs, v = .ref t ∧ H t = some (.tup [.int (x.1.1 : Int), .int (x.1.2 : Int), .ref pr]) ∧ pr ≠ d ∧ H pr = some (.lst vs) ∧ Paired (RAct H) vs x.2
section
variable {P : Program} {w : World} {K : PySem.W.Frag} {mg : Str → Option Value} {base : Heap}
theorem ok_seen {f fN fC : Addr} {fd fdN fdC : FuncData} {k : Nat} (F : Fun K "seen_alike" "seen_alike" sSeen f fd)
    (GN : FnOk P w K mg base CX0 k fN fdN ["table", "state", "action"] spNext) (kN : PySem.W.keepIn K (.ref fN) = true) (bN : Binds K fdN ["table", "state", "action"] []) (gN : mg "next_state" = some (.ref fN))
    (GC : FnOk P w K mg base CX0 k fC fdC ["action", "party"] spConc) (kC : PySem.W.keepIn K (.ref fC) = true) (bC : Binds K fdC ["action", "party"] []) (gC : mg "concerns" = some (.ref fC))
    (mL : mg "len" = none) : FnOk P w K mg base CX0 (k + 1) f fd ["table", "party", "sight", "wanted"] spSeen := by
  refine F.ok scSeen (fun vs H Q E h => ?_) (fun cdv A outer s0 H vs Q E hr h => ?_)
  · obtain ⟨x, p, y, z, T, r, a, rfl, _⟩ := h
    rfl
  · obtain ⟨x, p, y, z, T, sr, wa, rfl, hT, hok, h60, ⟨py, svs, rfl, hpy, hsv⟩, hsl, hwa, q⟩ := h
    have hu := hu_of hr
    have nd := scSeen.nd
    refine ⟨_, pss_cons (ps_set (i := 4) nd rfl (.inl rfl) (pe_lst (pa_cons (pe_tup (pa_cons pe_int (pa_cons pe_int (pa_cons (pe_lst pa_nil) pa_nil)))) pa_nil)))
      (pss_cons (ps_set (i := 5) nd rfl (.inl rfl) (pe_disp1T hr.units (pe_tup (pa_cons pe_int (pa_cons pe_int pa_nil))) pe_bl))
      (pss_cons (ps_set (i := 6) nd rfl (.inl rfl) pe_int)
      (pss_cons (ps_while PassesOwn.never (pt_cmp (pc_lt (pv 6) (pe_callB call_len_seq (by rfl) mL (by decide +kernel) (pa_cons (pv 4) pa_nil))))
        (pss_cons (ps_asg (pe_ix ix_list (pv 4) (pv 6) (fun _ _ => rfl)) (pg_tup rfl (pgs_cons (pg_name (i := 7) nd rfl (.inl rfl)) (pgs_cons (pg_name (i := 8) nd rfl (.inl rfl)) (pgs_cons (pg_name (i := 9) nd rfl (.inl rfl)) pgs_nil)))))
        (pss_cons (ps_aug (i := 6) nd rfl (.inl rfl) pe_int ip_add)
        (pss_cons (ps_cut (ps_if (pt_cmp (pc_eqI (pv 8) (pe_callB call_len_seq (by rfl) mL (by decide +kernel) (pa_cons (pv 2) pa_nil))))
          (pss_cons (ps_cut (ps_if (PW.pt (pw_and (pt_cmp (pc_isN (pv 3))) (pw_and1 (pt_val (pe_ix ix_tup (pe_ix ix_tup (pv 0) pe_int (fun _ _ => rfl)) (pv 7) (fun _ _ => rfl)))))) (pss_one (ps_ret (pv 9))) pss_nil))
          (pss_one (ps_if (PW.pt (pw_and (pt_cmp (pc_notN (pv 3))) (pw_and1 (pt_cmp (pc_notN (pe_call GN hr (by rfl) gN kN bN .nil pass0 (pa_cons (pv 0) (pa_cons (pv 7) (pa_cons (pv 3) pa_nil))))))))) (pss_one (ps_ret (pv 9))) pss_nil))) pss_nil))
        (pss_one (ps_for PassesOwn.never rfl (pi_tup (pe_ix ix_tup (pe_ix ix_tup (pv 0) pe_int (fun _ _ => rfl)) (pv 7) (fun _ _ => rfl))) (pg_tup rfl (pgs_cons (pg_name (i := 10) nd rfl (.inl rfl)) (pgs_cons (pg_name (i := 11) nd rfl (.inl rfl)) pgs_nil)))
          (pss_cons (ps_set (i := 12) nd rfl (.inl rfl) (pv 8))
          (pss_cons (ps_cut (ps_if (pt_val (pe_call GC hr (by rfl) gC kC bC .nil pass0 (pa_cons (pv 10) (pa_cons (pv 1) pa_nil))))
            (pss_cons (ps_if (PW.pt (pw_or (pt_cmp (pc_eqI (pv 8) (pe_callB call_len_seq (by rfl) mL (by decide +kernel) (pa_cons (pv 2) pa_nil)))) (pw_or1 (pt_cmpR (op_neA hr.units) (pe_ix ix_list (pv 2) (pv 8) (fun _ _ => rfl)) (pv 10) (nomark _))))) (pss_one ps_continue) pss_nil)
            (pss_one (ps_set (i := 12) nd rfl (.inl rfl) (pe_add (pv 8) pe_int)))) pss_nil))
          (pss_one (ps_if (pt_cmp (pc_dnotin hu (pe_tup (pa_cons (pv 11) (pa_cons (pv 12) pa_nil))) (pv 5)))
            (pss_cons (ps_dput hu (pv 5) (pe_tup (pa_cons (pv 11) (pa_cons (pv 12) pa_nil))) pe_bl rfl)
            (pss_one (ps_expr (pe_bm PySem.F.plainAttrs_list PySem.F.slot_list_append PySem.F.type_list_append mt_append (pv 4) (pa_cons (pe_tup (pa_cons (pv 11) (pa_cons (pv 12) (pa_cons (pe_op op_cat (pv 9) (pe_lst (pa_cons (pv 10) pa_nil))) pa_nil)))) pa_nil)))))
            pss_nil))))))))))
      (pss_one (ps_ret pe_non))))), ?_⟩
    obtain ⟨pt, vr, ve, rfl, hpt, ⟨pr, vrs, rfl, hpr, prs⟩, ⟨pe, ves, rfl, hpe, pes⟩⟩ := id hT
    have eb : ves = T.ends.map V.bl := pbl pes
    subst eb
    have svl := plen hsv
    refine ⟨Nat.le_of_ble_eq_true rfl, fun lr nlr => ⟨Nat.le_of_ble_eq_true rfl, fun t0 nt0 => ⟨Nat.le_of_ble_eq_true rfl, fun d4 nd4 => ?_⟩⟩⟩
    have sC := same_upd (o := .lst []) nlr
    have sD := sC.trans (same_upd (o := .tup [.int 0, .int 0, .ref lr]) nt0)
    have sE := sD.trans (same_upd (o := .lst [.ref t0]) nd4)
    have lr4 : lr ≠ d4 := fun e => by rw [← e, same_upd nt0 _ _ upd_same] at nd4; cases nd4
    have h04 : H d4 = none := sD.free nd4
    intro df ndf
    refine ⟨Nat.le_of_ble_eq_true rfl, fun tk ntk => ⟨tk, keyP (0, 0), rfl, by rw [upd_ne (ne_of_none upd_same ntk)]; exact upd_same, upd_same, ?_⟩⟩
    have h0f : H df = none := sE.free ndf
    have df4 : df ≠ d4 := fun e => by rw [e, upd_same] at ndf; cases ndf
    obtain ⟨H1, eH1⟩ : ∃ H1, H1 = upd (upd (upd (upd (upd (upd H lr (.lst [])) t0 (.tup [.int 0, .int 0, .ref lr])) d4 (.lst [.ref t0])) df (.dT [])) tk (.tup [.int 0, .int 0])) df (.dT [(keyP (0, 0), .bl true)]) := ⟨_, rfl⟩
    rw [← eH1]
    have sF : Same (upd (upd (upd H lr (.lst [])) t0 (.tup [.int 0, .int 0, .ref lr])) d4 (.lst [.ref t0])) H1 := by rw [eH1]; exact same_re ((same_upd ndf).trans (same_upd ntk)) ndf
    have s01 := sE.trans sF
    have hdf1 : H1 df = some (.dT [(keyP (0, 0), .bl true)]) := by rw [eH1, upd_same]
    let Fits : List ((Nat × Nat) × List Act) → Prop := fun ws => (ws.map (·.1)).Nodup ∧ (∀ x ∈ ws, x.1.1 < T.rows.length ∧ x.1.2 ≤ sr.length) ∧ ∀ (k : Nat) x, ws[k]? = some x → x.2.length ≤ k
    have fitl : ∀ {ws}, Fits ws → ws.length ≤ T.rows.length * (sr.length + 1) := fun {ws} h => by
      have := pairs_len (l := ws.map (·.1)) (n := T.rows.length) (m := sr.length) h.1 fun x hx => by
        obtain ⟨y, hy, rfl⟩ := List.mem_map.mp hx
        exact h.2.1 y hy
      rwa [List.length_map] at this
    have capB : T.rows.length * (sr.length + 1) ≤ 60 * 3001 := Nat.mul_le_mul h60 (by omega)
    let St1 : List ((Nat × Nat) × List Act) → Hp → Prop := fun ws H' => Same H H' ∧ Fits ws ∧ (∃ kvs, H' df = some (.dT kvs) ∧ kvs.map (·.1) = (ws.map (·.1)).map keyP) ∧ ∃ ovs, H' d4 = some (.lst ovs) ∧ Paired (RWo d4 H') ovs ws
    refine ⟨fun m σ H' => ∃ i ws y7 y8 y9 y10 y11 y12, σ = [some (.ref pt), some (.str p), some (.ref py), some z, some (.ref d4), some (.ref df), some (.int ((i : Nat) : Int)), y7, y8, y9, y10, y11, y12] ∧ St1 ws H' ∧ i ≤ ws.length ∧ m = T.rows.length * (sr.length + 1) - i,
      ⟨_, 0, [((0, 0), [])], none, none, none, none, none, none, rfl, ⟨s01, ⟨by simp, ?_, ?_⟩, ⟨_, hdf1, rfl⟩, ⟨_, sF _ _ upd_same, .cons ⟨t0, lr, [], rfl, (sF _ _ (same_upd nd4 _ _ upd_same)), lr4, sF _ _ (same_upd nd4 _ _ (same_upd nt0 _ _ upd_same)), .nil⟩ .nil⟩⟩, Nat.zero_le _, rfl⟩, ?_⟩
    · intro x hx
      have : x = ((0, 0), []) := by simpa using hx
      subst this
      exact ⟨hok.pos, Nat.zero_le _⟩
    · intro k x hk
      have := List.mem_of_getElem? hk
      have : x = ((0, 0), []) := by simpa using this
      subst this
      exact Nat.zero_le _
    rintro m σ Ht ⟨i, ws, y7, y8, y9, y10, y11, y12, rfl, ⟨sm, hfit, ⟨fk, hdf, hfk⟩, ⟨ovs, hd4, hov⟩⟩, hil, rfl⟩
    have hol := plen hov
    have hwl := fitl hfit
    refine ⟨_, rfl, _, rfl, d4, ovs, rfl, .inl (SqL.of hd4), _, _, rfl, rfl, _, rfl, ?_⟩
    refine ite2 (fun e => ?_) (fun e => ?_)
    · have hi : i < ws.length := by
        have e2 : (i : Int) < ((ovs.length : Nat) : Int) := of_decide_eq_true e
        omega
      refine ⟨fun σ' H'' => ∃ m', m' < T.rows.length * (sr.length + 1) - i ∧ _, fun _ _ h => h, ?_⟩
      obtain ⟨⟨⟨s, c⟩, r⟩, hx⟩ : ∃ x, ws[i]? = some x := ⟨_, List.getElem?_eq_getElem hi⟩
      obtain ⟨v, hv, t, pl, rvs, rfl, ht, npl, hpl, hrv⟩ := pget' hov hx
      obtain ⟨hsl1, hcl⟩ := hfit.2.1 _ (List.mem_of_getElem? hx)
      have hsl1 : s < T.rows.length := hsl1
      have hcl : c ≤ sr.length := hcl
      have hrun := hfit.2.2 i _ hx
      have hrun : r.length ≤ i := hrun
      refine ⟨_, rfl, _, rfl, d4, ovs, _, _, rfl, rfl, SqL.of hd4, atI_nat hv, t, _, rfl, SqT.of ht, rfl, _, _, rfl, _, _, rfl, _, _, rfl, rfl, ?_⟩
      refine ⟨_, rfl, _, _, rfl, rfl, ?_⟩
      obtain ⟨row, hrow⟩ : ∃ row, T.rows[s]? = some row := ⟨_, List.getElem?_eq_getElem hsl1⟩
      have hrm : row ∈ T.rows := List.mem_of_getElem? hrow
      obtain ⟨rv, hrvx, p5, vs5, rfl, hp5, prow⟩ := pget' prs hrow
      have hend : (T.ends.map V.bl)[s]? = some (.bl (T.ends.getD s false)) := by rw [List.getElem?_map, some_getD (d := false) (by rw [hok.len]; exact hsl1)]; rfl
      have retAny : ∀ v : V, Q v Ht := fun v => q Ht v sm
      refine ⟨fun σ' H9 => H9 = Ht ∧ σ' = [some (.ref pt), some (.str p), some (.ref py), some z, some (.ref d4), some (.ref df), some (.int (((i + 1 : Nat) : Nat) : Int)), some (.int (s : Int)), some (.int (c : Int)), some (.ref pl), y10, y11, y12],
        ⟨_, rfl, _, rfl, py, svs, rfl, .inl (SqL.of (sm _ _ hpy)), _, _, rfl, rfl, _, rfl, ite2 (fun e1 => ?_) (fun e1 => ⟨rfl, rfl⟩)⟩, ?_⟩
      · refine ⟨fun σ' H9 => H9 = Ht ∧ σ' = [some (.ref pt), some (.str p), some (.ref py), some z, some (.ref d4), some (.ref df), some (.int (((i + 1 : Nat) : Nat) : Int)), some (.int (s : Int)), some (.int (c : Int)), some (.ref pl), y10, y11, y12],
          ⟨z, rfl, _, rfl, ?_⟩, ?_⟩
        · refine ite2 (fun e2 => ?_) (fun e2 => iteF ⟨rfl, rfl⟩)
          refine ⟨.ref pt, rfl, pt, _, _, .ref pe, rfl, rfl, SqT.of (sm _ _ hpt), atI_nat (j := 2) rfl, _, rfl, pe, _, _, _, rfl, rfl, SqT.of (sm _ _ hpe), atI_nat hend, _, rfl, ite2 (fun e3 => ?_) (fun e3 => ⟨rfl, rfl⟩)⟩
          exact ⟨_, rfl, retAny _⟩
        · rintro σ' H9 ⟨rfl, rfl⟩
          refine ⟨z, rfl, _, rfl, ite2 (fun e2 => ?_) (fun e2 => iteF ⟨rfl, rfl⟩)⟩
          cases wa with
          | none =>
            have hz : z = .non := hwa
            subst hz
            simp at e2
          | some a =>
            have hz : RAct H z a := hwa
            refine ⟨_, rfl, _, rfl, _, rfl, _, z, T, s, a, rfl, RTbl.mono _ _ _ _ sm hT, hsl1, RAct.mono _ _ _ _ sm hz, _, rfl, ite2 (fun e3 => ?_) (fun e3 => ⟨rfl, rfl⟩)⟩
            exact ⟨_, rfl, retAny _⟩
      · rintro σ' H9 ⟨rfl, rfl⟩
        refine ⟨.ref pt, rfl, pt, _, _, .ref pr, rfl, rfl, SqT.of (sm _ _ hpt), atI_nat (j := 1) rfl, _, rfl, pr, _, _, .ref p5, rfl, rfl, SqT.of (sm _ _ hpr), atI_nat hrvx, p5, rfl, ⟨_, SqT.of (sm _ _ hp5)⟩,
          for_it (walk_tup (xs := vs5)) (fun j σ H7 => ∃ ws' y10 y11 y12, σ = [some (.ref pt), some (.str p), some (.ref py), some z, some (.ref d4), some (.ref df), some (.int (((i + 1 : Nat) : Nat) : Int)), some (.int (s : Int)), some (.int (c : Int)), some (.ref pl), y10, y11, y12] ∧ St1 ws' H7 ∧ ws.length ≤ ws'.length ∧ TSm H9 H7 ∧ H7 pl = some (.lst rvs))
          ⟨ws, _, _, _, rfl, ⟨sm, hfit, ⟨fk, hdf, hfk⟩, ⟨ovs, hd4, hov⟩⟩, Nat.le_refl _, TSm.rfl, hpl⟩ ?_ ?_ ?_⟩
        · rintro j σ H7 _ ⟨_, _, _, _, _, ⟨s7, _⟩, _⟩
          exact SqT.of (s7 _ _ hp5)
        · rintro j yv σ H7 H8 hj ⟨ws', y10, y11, y12, rfl, ⟨s7, hfit7, ⟨fk7, hdf7, hfk7⟩, ⟨ov7, hd47, hov7⟩⟩, hlen7, t7, hpl7⟩ ⟨rfl, hyj⟩
          obtain ⟨pq, hpq, p6, va, vb, rfl, hp6, hva, hvb⟩ := pget prow hyj
          have hb : vb = .int (pq.2 : Int) := hvb
          subst hb
          have hgl : pq.2 < T.rows.length := hok.inb row hrm pq (List.mem_of_getElem? hpq)
          have hva7 : RAct H8 va pq.1 := RAct.mono _ _ _ _ s7 hva
          refine ⟨p6, _, rfl, SqT.of (s7 _ _ hp6), rfl, va, _, rfl, _, _, rfl, rfl, ?_⟩
          refine ⟨_, rfl, ?_⟩
          refine ⟨fun σ' H9 => H9 = H8 ∧ ∃ c' : Nat, c' ≤ sr.length ∧ σ' = [some (.ref pt), some (.str p), some (.ref py), some z, some (.ref d4), some (.ref df), some (.int (((i + 1 : Nat) : Nat) : Int)), some (.int (s : Int)), some (.int (c : Int)), some (.ref pl), some va, some (.int (pq.2 : Int)), some (.int (c' : Int))],
            ⟨_, rfl, _, rfl, va, pq.1, p, rfl, hva7, _, rfl, ite2 (fun e1 => ?_) (fun e1 => ⟨rfl, c, hcl, rfl⟩)⟩, ?_⟩
          · refine ⟨_, rfl, _, rfl, py, svs, rfl, .inl (SqL.of (s7 _ _ hpy)), _, _, rfl, rfl, _, rfl, ite2 (fun e2 => ?_) (fun e2 => ?_)⟩
            · exact iteT (B := True) ⟨ws', some va, some (.int (pq.2 : Int)), some (.int (c : Int)), rfl, ⟨s7, hfit7, ⟨fk7, hdf7, hfk7⟩, ⟨ov7, hd47, hov7⟩⟩, hlen7, t7, hpl7⟩
            have e2 : ¬ (c : Int) = ((svs.length : Nat) : Int) := fun z => e2 (decide_eq_true z)
            have hcs : c < sr.length := by omega
            obtain ⟨sv, hsv1, hsv2⟩ := pget' hsv (List.getElem?_eq_getElem hcs)
            refine ⟨_, rfl, _, rfl, py, svs, _, sv, rfl, rfl, SqL.of (s7 _ _ hpy), atI_nat hsv1, va, rfl, _, pq.1, RAct.mono _ _ _ _ s7 hsv2, hva7, _, rfl, ite2 (fun e3 => ?_) (fun e3 => ?_)⟩
            · exact ⟨ws', some va, some (.int (pq.2 : Int)), some (.int (c : Int)), rfl, ⟨s7, hfit7, ⟨fk7, hdf7, hfk7⟩, ⟨ov7, hd47, hov7⟩⟩, hlen7, t7, hpl7⟩
            exact ⟨_, rfl, _, _, rfl, rfl, rfl, c + 1, by omega, rfl⟩
          · rintro σ' H9' ⟨rfl, c', hc', rfl⟩
            have mk := mem_keys hfk7 keyP_inj (pq.2, c')
            have fl7 : fk7.length = ws'.length := by have := congrArg List.length hfk7; simpa using this
            have hw7 := fitl hfit7
            refine ⟨_, rfl, _, rfl, Nat.le_of_ble_eq_true rfl, fun tk ntk => ?_⟩
            have sK := same_upd (o := .tup [.int (pq.2 : Int), .int (c' : Int)]) ntk
            refine ⟨_, rfl, df, _, rfl, DGet.t (k := keyP (pq.2, c')) (sK _ _ hdf7) upd_same, _, rfl, ite2 (fun e1 => ?_) (fun e1 => ?_)⟩
            · have hnew : (pq.2, c') ∉ ws'.map (·.1) := fun z => by
                rw [mk.mpr z] at e1
                cases e1
              have hvn : valV fk7 (keyP (pq.2, c')) = none := by
                cases h : valV fk7 (keyP (pq.2, c')) with
                | none => rfl
                | some v => exact absurd (mk.mp (by rw [h]; rfl)) hnew
              refine ⟨_, rfl, _, rfl, _, rfl, Nat.le_of_ble_eq_true rfl, fun tk2 ntk2 => ?_⟩
              have sK2 := sK.trans (same_upd (o := .tup [.int (pq.2 : Int), .int (c' : Int)]) ntk2)
              have hdfk := sK2 _ _ hdf7
              refine ⟨df, _, rfl, DPut.t (k := keyP (pq.2, c')) hdfk upd_same (by rw [sizeLine_eq]; omega), ?_⟩
              rw [putK_new _ hvn]
              obtain ⟨Hk, eHk⟩ : ∃ Hk, Hk = upd (upd H9' tk (.tup [.int (pq.2 : Int), .int (c' : Int)])) tk2 (.tup [.int (pq.2 : Int), .int (c' : Int)]) := ⟨_, rfl⟩
              rw [← eHk] at hdfk sK2 ⊢
              obtain ⟨Ha, eHa⟩ : ∃ Ha, Ha = upd Hk df (.dT (fk7 ++ [(keyP (pq.2, c'), .bl true)])) := ⟨_, rfl⟩
              rw [← eHa]
              have tA : TSm Hk Ha := by rw [eHa]; exact TSm.re hdfk (fun _ => nofun)
              have kA : ∀ {b : Addr} {o : HO}, b ≠ df → Hk b = some o → Ha b = some o := fun n h => by rw [eHa, upd_ne n]; exact h
              have sA2 : Same H Ha := by rw [eHa]; exact same_re (s7.trans sK2) h0f
              have hd4a := kA df4.symm (sK2 _ _ hd47)
              have npf : pl ≠ df := ne_of hpl7 hdf7 (fun z => nomatch z)
              have hpla := kA npf (sK2 _ _ hpl7)
              have hdfa : Ha df = some (.dT (fk7 ++ [(keyP (pq.2, c'), .bl true)])) := by rw [eHa, upd_same]
              have ov7l := plen hov7
              refine ⟨.ref d4, rfl, .inl ⟨rfl, _, .inl (.inl hd4a)⟩, _, rfl, _, rfl, _, rfl, _, rfl, Nat.le_of_ble_eq_true rfl, fun la nla => ?_⟩
              have rl : rvs.length ≤ 200000 := by
                have h2 : rvs.length = r.length := plen hrv
                omega
              have sLa := same_upd (o := .lst [va]) nla
              refine ⟨pl, la, rvs, [va], rfl, rfl, sLa _ _ hpla, upd_same, by rw [sizeLine_eq]; simp only [List.length_singleton]; omega, fun lb nlb => ⟨Nat.le_of_ble_eq_true rfl, fun tn ntn => ?_⟩⟩
              have sLb := sLa.trans (same_upd (o := .lst (rvs ++ [va])) nlb)
              have sTn := sLb.trans (same_upd (o := .tup [.int (pq.2 : Int), .int (c' : Int), .ref lb]) ntn)
              refine ⟨d4, ov7, _, rfl, rfl, sTn _ _ hd4a, by rw [sizeLine_eq]; omega, ?_⟩
              obtain ⟨Hb, eHb⟩ : ∃ Hb, Hb = upd (upd (upd Ha la (.lst [va])) lb (.lst (rvs ++ [va]))) tn (.tup [.int (pq.2 : Int), .int (c' : Int), .ref lb]) := ⟨_, rfl⟩
              rw [← eHb] at sTn ⊢
              have hd4b := sTn _ _ hd4a
              have tF : TSm Hb (upd Hb d4 (.lst (ov7 ++ [.ref tn]))) := TSm.re hd4b (fun _ => nofun)
              have kF : ∀ {b : Addr} {o : HO}, b ≠ d4 → Hb b = some o → (upd Hb d4 (.lst (ov7 ++ [.ref tn]))) b = some o := fun n h => by rw [upd_ne n]; exact h
              have t9F : TSm H9' (upd Hb d4 (.lst (ov7 ++ [.ref tn]))) := ((((Same.ts sK2)).trans tA).trans (Same.ts sTn)).trans tF
              have ndlb : lb ≠ d4 := fun e => by rw [e, sLa _ _ hd4a] at nlb; cases nlb
              have hlb : Hb lb = some (.lst (rvs ++ [va])) := by rw [eHb]; exact same_upd ntn _ _ upd_same
              have htn : Hb tn = some (.tup [.int (pq.2 : Int), .int (c' : Int), .ref lb]) := by rw [eHb, upd_same]
              refine ⟨ws' ++ [((pq.2, c'), r ++ [pq.1])], _, _, _, rfl, ⟨same_re (sA2.trans sTn) h04, ⟨?_, ?_, ?_⟩, ⟨_, kF df4 (sTn _ _ hdfa), ?_⟩, ⟨_, upd_same, psnoc ?_ ?_⟩⟩, by rw [List.length_append]; omega, t7.trans t9F, kF npl (sTn _ _ hpla)⟩
              · rw [List.map_append]
                refine List.nodup_append.mpr ⟨hfit7.1, by simp, fun a ha b hb e => ?_⟩
                have : b = (pq.2, c') := by simpa using hb
                subst this
                exact hnew (e ▸ ha)
              · intro x hx
                rcases List.mem_append.mp hx with hx | hx
                · exact hfit7.2.1 x hx
                · have : x = ((pq.2, c'), r ++ [pq.1]) := by simpa using hx
                  subst this
                  exact ⟨hgl, hc'⟩
              · intro k x hk
                by_cases hkl : k < ws'.length
                · rw [List.getElem?_append_left hkl] at hk
                  exact hfit7.2.2 k x hk
                · rw [List.getElem?_append_right (by omega)] at hk
                  have : x = ((pq.2, c'), r ++ [pq.1]) := by simpa using List.mem_of_getElem? hk
                  subst this
                  show (r ++ [pq.1]).length ≤ k
                  rw [List.length_append, List.length_singleton]
                  omega
              · rw [List.map_append, hfk7, List.map_append, List.map_append]
                rfl
              · refine Paired.mapP hov7 ?_
                intro v x h
                obtain ⟨q1, q3, q4, e, h1, n, h3, h4⟩ := h
                have nqf : q3 ≠ df := ne_of h3 hdf7 (fun z => nomatch z)
                exact ⟨q1, q3, q4, e, t9F _ _ h1, n, kF n (sTn _ _ (kA nqf (sK2 _ _ h3))), RAct.tm.ps t9F h4⟩
              · exact ⟨tn, lb, rvs ++ [va], rfl, tF _ _ htn, ndlb, kF ndlb hlb, psnoc (RAct.tm.ps (t7.trans t9F) hrv) (RAct.tm _ _ _ _ t9F hva7)⟩
            · exact ⟨ws', _, _, _, rfl, ⟨s7.trans sK, hfit7, ⟨fk7, sK _ _ hdf7, hfk7⟩, ⟨ov7, sK _ _ hd47, Paired.mapP hov7 fun v x ⟨q1, q3, q4, e, h1, n, h3, h4⟩ => ⟨q1, q3, q4, e, sK _ _ h1, n, sK _ _ h3, RAct.tm.ps (Same.ts sK) h4⟩⟩⟩, hlen7, t7.trans (Same.ts sK), sK _ _ hpl7⟩
        · rintro σ H7 ⟨ws', y10, y11, y12, rfl, h7, hlen7, _, _⟩
          exact ⟨T.rows.length * (sr.length + 1) - (i + 1), by omega, i + 1, ws', _, _, _, _, _, _, rfl, h7, by omega, rfl⟩
    · exact q Ht .non sm
end
end PL
namespace PL
open PySem PySem.Spec PyProof.Rows L2
/-- the states of the machines, by party -/
def stK (ms : Ms) (js : List Nat) : List (L2.Key × V) := List.zipWith (fun (x : Str × Tbl) (j : Nat) => (keyS x.1, V.int (j : Int))) ms js
theorem stK_len {ms : Ms} {js : List Nat} (h : js.length = ms.length) : (stK ms js).length = ms.length := by unfold stK; rw [List.length_zipWith, h, Nat.min_self]
theorem stK_get {ms : Ms} {js : List Nat} {i : Nat} {x : Str × Tbl} {j : Nat} (h1 : ms[i]? = some x) (h2 : js[i]? = some j) : (stK ms js)[i]? = some (keyS x.1, V.int (j : Int)) := by
  unfold stK
  rw [List.getElem?_zipWith, h1, h2]
theorem stK_val : ∀ {ms : Ms} {js : List Nat}, js.length = ms.length → (ms.map (·.1)).Nodup → ∀ {i : Nat} {x : Str × Tbl} {j : Nat}, ms[i]? = some x → js[i]? = some j → valV (stK ms js) (keyS x.1) = some (.int (j : Int))
  | [], _, _, _, _, _, _, h, _ => by cases h
  | x :: ms, [], h, _, _, _, _, _, _ => by cases h
  | x :: ms, j :: js, hl, nd, i, y, k, h1, h2 => by
    have n1 := List.nodup_cons.mp (show (x.1 :: ms.map (·.1)).Nodup from nd)
    cases i with
    | zero =>
      cases h1
      cases h2
      exact valV_pos (by rfl)
    | succ i =>
      have h1 : ms[i]? = some y := h1
      have h2 : js[i]? = some k := h2
      show valV ((keyS x.1, V.int (j : Int)) :: stK ms js) _ = _
      rw [valV_neg fun e : keyS x.1 = keyS y.1 => n1.1 (by rw [keyS_inj _ _ e]; exact List.mem_map.mpr ⟨y, List.mem_of_getElem? h1, by rfl⟩)]
      exact stK_val (by simpa using hl) n1.2 h1 h2
def Sends (ms : Ms) (js : List Nat) (a : Act) : Prop := ∃ (i : Nat) (x : Str × Tbl) (j g : Nat), ms[i]? = some x ∧ js[i]? = some j ∧ a.1 = x.1 ∧ x.2.next j a = some g
abbrev sSbp : Stmt := topS 28
abbrev nSbp : List Str := ["machines", "joint", "place", "party"]
theorem scSbp : FnScope nSbp ["machines", "joint"] (defScope sSbp) := ⟨rfl, rfl, rfl, by decide +kernel, rfl, by decide +kernel, by decide +kernel⟩
def spSbp : Sp := fun vs H Q _ => ∃ y z ms s js, vs = [y, z] ∧ RMs H y ms ∧ (ms.map (·.1)).Nodup ∧ ms.length ≤ 60 ∧ RTup RNat H z (s :: js) ∧ js.length = ms.length ∧
  ∀ (H' : Hp) (q : Addr), Same H H' → H q = none → H' q = some (.dK (stK ms js)) → Q (.ref q) H'
abbrev sSends : Stmt := topS 29
abbrev nSends : List Str := ["machines", "states", "actions", "party", "action", "_"]
theorem scSends : FnScope nSends ["machines", "states"] (defScope sSends) := ⟨rfl, rfl, rfl, by decide +kernel, rfl, by decide +kernel, by decide +kernel⟩
def spSends : Sp := fun vs H Q _ => ∃ y d ms js, vs = [y, .ref d] ∧ RMs H y ms ∧ (ms.map (·.1)).Nodup ∧ ms.length ≤ 60 ∧ H d = some (.dK (stK ms js)) ∧ js.length = ms.length ∧ (∀ (i : Nat) x j, ms[i]? = some x → js[i]? = some j → x.2.OK ∧ j < x.2.rows.length ∧ ∀ r ∈ x.2.rows, r.length ≤ 6000) ∧
  ∀ (H' : Hp) (q : Addr) (acts : List Act), Same H H' → H q = none → RRun H' (.ref q) acts → (∀ a, a ∈ acts ↔ Sends ms js a) → Q (.ref q) H'
/-- the keys of the machines' dict -/
theorem ms_val {H : Hp} {ms : Ms} {kvs : List (L2.Key × V)} (h : Paired (fun (kv : L2.Key × V) (x : Str × Tbl) => kv.1 = .inr x.1 ∧ RTbl H kv.2 x.2) kvs ms) (nd : (ms.map (·.1)).Nodup) {i : Nat} {x : Str × Tbl} (hx : ms[i]? = some x) : ∃ v, kvs[i]? = some (keyS x.1, v) ∧ valV kvs (keyS x.1) = some v ∧ RTbl H v x.2 := by
  obtain ⟨kv, h1, h2, h3⟩ := pget' h hx
  have nd2 : (ms.map fun x => keyS x.1).Nodup := by have h := map_nodup keyS_inj nd; rw [List.map_map] at h; exact h
  refine ⟨kv.2, ?_, kv_ix (f := fun x : Str × Tbl => keyS x.1) (G := fun v x => RTbl H v x.2) h nd2 h1 hx, h3⟩
  rw [h1]
  exact congrArg some (Prod.ext h2 rfl)
section
variable {P : Program} {w : World} {K : PySem.W.Frag} {mg : Str → Option Value} {base : Heap}
theorem ok_sbp {f : Addr} {fd : FuncData} {k : Nat} (F : Fun K "states_by_party" "states_by_party" sSbp f fd) (mE : mg "enumerate" = none) : FnOk P w K mg base CX0 (k + 1) f fd ["machines", "joint"] spSbp := by
  refine F.ok scSbp (fun vs H Q E h => ?_) (fun cdv A outer s0 H vs Q E hr h => ?_)
  · obtain ⟨y, z, ms, s, js, rfl, _⟩ := h
    rfl
  · obtain ⟨y, z, ms, s, js, rfl, ⟨d, kvs, rfl, hd, hms⟩, hnd, hml, ⟨pj, vj, rfl, hpj, hvj⟩, hjl, q⟩ := h
    have nd := scSbp.nd
    refine ⟨_, pss_one (ps_ret (pe_lock (pe_dcK (own := [("place", 2), ("party", 3)]) (g := g2 K 2 3) (by rfl) nd (pi_enD (by rfl) mE (pa_cons (pv 0) pa_nil)) (blkOk_by (N := nSbp) (sc := defScope sSbp) (by decide +kernel)) (fun _ _ _ _ _ => pg_tupK rfl rfl (pgs_cons (pg_name (i := 2) nd rfl (Or.inl rfl)) (pgs_cons (pg_name (i := 3) nd rfl (Or.inl rfl)) pgs_nil))) (fun _ _ _ _ _ => pts_nil) (fun _ _ _ _ _ => pv 3)
      (fun _ _ _ _ _ => pe_ix (ix_tupK (K := K) rfl) (pv 1) (pe_add (pv 2) pe_int) (fun _ _ => rfl))))), ?_⟩
    have evj := pnat hvj
    subst evj
    have kl := plen hms
    refine ⟨d, .dK kvs, hd, True.intro, fun od => ?_⟩
    have t0 : TSm H (upd H d (.frz od (.dK kvs))) := TSm.re hd (fun _ => nofun)
    refine ⟨_, rfl, d, od, kvs, rfl, upd_same, fun D nD => ⟨_, _, _, walk_en, fun i H2 => Same (upd H d (.frz od (.dK kvs))) H2 ∧ H2 D = some (.dK ((stK ms js).take i)), ?_, ?_, ?_, ?_⟩⟩
    · exact ⟨same_upd nD, upd_same⟩
    · intro i H2 _ ⟨sm, _⟩
      exact sm _ _ upd_same
    · rintro i x H2 H3 hi ⟨sm, hD⟩ ⟨tT, y, rfl, nT, rfl, kk, vv, hkv, rfl⟩
      obtain ⟨xm, hxm, ek, hM⟩ := pget hms hkv
      cases (show kk = _ from ek)
      have him : i < ms.length := (List.getElem?_eq_some_iff.mp hxm).1
      obtain ⟨j, hj⟩ : ∃ j, js[i]? = some j := ⟨_, List.getElem?_eq_getElem (by omega)⟩
      have s8 := sm.trans (same_upd (o := .tup [.int (i : Nat), kV (.inr xm.1)]) nT)
      have t8 := t0.trans (Same.ts s8)
      have hvj1 : ((s :: js).map fun n : Nat => V.int (n : Int))[i + 1]? = some (.int (j : Int)) := by
        rw [List.map_cons, List.getElem?_cons_succ, List.getElem?_map, hj]
        rfl
      have hat : atI ((s :: js).map fun n : Nat => V.int (n : Int)) (((i : Nat) : Int) + 1) = some (.int (j : Int)) := atI_nat (j := i + 1) hvj1
      have hD8 := same_upd (o := .tup [.int (i : Nat), kV (.inr xm.1)]) nT _ _ hD
      have hsk := stK_get hxm hj
      have hnew : valV ((stK ms js).take i) (keyS xm.1) = none := by
        cases h : valV ((stK ms js).take i) (keyS xm.1) with
        | none => rfl
        | some v0 =>
          exfalso
          have h1 : (((stK ms js).take i).any fun kv => decide (kv.1 = keyS xm.1)) = true := by rw [valV_any, h]; rfl
          obtain ⟨kv, hkv, e⟩ := List.any_eq_true.mp h1
          obtain ⟨i2, hi2, e2⟩ := List.getElem_of_mem hkv
          rw [List.length_take] at hi2
          rw [List.getElem_take] at e2
          have hi3 : i2 < ms.length := by rw [stK_len hjl] at hi2; omega
          have h3 := stK_get (List.getElem?_eq_getElem hi3) (List.getElem?_eq_getElem (l := js) (i := i2) (by omega))
          rw [List.getElem?_eq_getElem (by rw [stK_len hjl]; exact hi3), e2] at h3
          have h4 := Option.some.inj h3
          have h5 : ms[i2].1 = xm.1 := keyS_inj _ _ (by rw [← of_decide_eq_true e, h4])
          have h6 : (ms.map (·.1))[i2]? = some xm.1 := by rw [List.getElem?_map, List.getElem?_eq_getElem hi3]; exact congrArg some h5
          have h7 : (ms.map (·.1))[i]? = some xm.1 := by rw [List.getElem?_map, hxm]; rfl
          have := nd_ix hnd h6 h7
          omega
      refine ⟨tT, _, rfl, SqT.of upd_same, rfl, _, _, rfl, _, _, rfl, rfl, rfl, iteT (B := True) ⟨_, rfl, _, rfl, _, rfl, _, _, rfl, rfl, pj, _, _, _, rfl, rfl, SqT.of (t8 _ _ hpj), hat, (stK ms js).take i, keyS xm.1, rfl, hD8, by rw [List.length_take, stK_len hjl, sizeLine_eq]; omega, same_re s8 nD, ?_⟩⟩
      rw [upd_same, putK_new _ hnew, take_snoc hsk]
    · rintro H2 ⟨sm, hD⟩
      have nDd : D ≠ d := fun e => by rw [e, upd_same] at nD; cases nD
      have hD0 : H D = none := by rw [upd_ne nDd] at nD; exact nD
      refine ⟨sm _ _ upd_same, q _ D (same_unlock hd sm) hD0 ?_⟩
      rw [upd_ne nDd, hD, List.take_of_length_le (by rw [stK_len hjl, kl]; exact Nat.le_refl _)]
theorem ok_sends {f : Addr} {fd : FuncData} {k : Nat} (F : Fun K "sends_at" "sends_at" sSends f fd) (mS : mg "sorted" = none) : FnOk P w K mg base CX0 (k + 1) f fd ["machines", "states"] spSends := by
  refine F.ok scSends (fun vs H Q E h => ?_) (fun cdv A outer s0 H vs Q E hr h => ?_)
  · obtain ⟨y, z, ms, js, rfl, _⟩ := h
    rfl
  · obtain ⟨y, ds, ms, js, rfl, ⟨d, kvs, rfl, hd, hms⟩, hnd, hml, hds, hjl, hmo, q⟩ := h
    have hu := hu_of hr
    have nd := scSends.nd
    refine ⟨_, pss_cons (ps_set (i := 2) nd rfl (.inl rfl) (pe_lst pa_nil))
      (pss_cons (ps_lock (ps_for PassesOwn.never rfl (pi_keys (pv 0)) (pg_name (i := 3) nd rfl (.inl rfl))
        (pss_one (ps_for PassesOwn.never rfl (pi_tup (pe_ix ix_tup (pe_ix ix_tup (pe_dget hu (pv 0) (pv 3) (fun _ _ => rfl)) pe_int (fun _ _ => rfl)) (pe_dget hu (pv 1) (pv 3) (fun _ _ => rfl)) (fun _ _ => rfl))) (pg_tup rfl (pgs_cons (pg_name (i := 4) nd rfl (.inl rfl)) (pgs_cons (pg_name (i := 5) nd rfl (.inl rfl)) pgs_nil)))
          (pss_one (ps_if (pt_cmpR op_eq (pe_ix ix_tup (pv 4) pe_int (fun _ _ => rfl)) (pv 3) (nomark _)) (pss_one (ps_expr (pe_bm PySem.F.plainAttrs_list PySem.F.slot_list_append PySem.F.type_list_append mt_append (pv 2) (pa_cons (pv 4) pa_nil)))) pss_nil))))))
      (pss_one (ps_ret (pe_callB (cr_sortA hr.units) (by rfl) mS (by decide +kernel) (pa_cons (pv 2) pa_nil))))), ?_⟩
    have kl := plen hms
    refine ⟨Nat.le_of_ble_eq_true rfl, fun dl ndl => ?_⟩
    have nld : dl ≠ d := fun e => by rw [e, hd] at ndl; cases ndl
    have hd1 : (upd H dl (.lst [])) d = some (.dK kvs) := same_upd ndl _ _ hd
    refine ⟨d, .dK kvs, hd1, True.intro, fun od => ?_⟩
    have ndl' : (upd H d (.frz od (.dK kvs))) dl = none := by rw [upd_ne nld]; exact ndl
    have t0 : TSm H (upd H d (.frz od (.dK kvs))) := TSm.re hd (fun _ => nofun)
    have s0 : Same (upd H d (.frz od (.dK kvs))) (upd (upd H dl (.lst [])) d (.frz od (.dK kvs))) := fun b o e => by
      by_cases h : b = d
      · subst h
        rw [upd_same] at e ⊢
        exact e
      · rw [upd_ne h] at e ⊢
        exact same_upd ndl _ _ e
    have hst : ∀ {H' : Hp}, Same (upd H d (.frz od (.dK kvs))) H' → Rd H' ds (.dK (stK ms js)) := by
      intro H' s
      by_cases h : ds = d
      · subst h
        rw [hd] at hds
        cases hds
        exact .inr ⟨od, s _ _ upd_same⟩
      · exact .inl (s _ _ (by rw [upd_ne h]; exact hds))
    let S0 : Nat → Act → Prop := fun n a => ∃ (i : Nat) (x : Str × Tbl) (j g : Nat), i < n ∧ ms[i]? = some x ∧ js[i]? = some j ∧ a.1 = x.1 ∧ x.2.next j a = some g
    refine ⟨.ref d, rfl, d, od, rfl, .inl ⟨kvs, upd_same, for_it walk_keys (fun i σ H7 => ∃ y3 y4 y5 vs as, σ = [some (.ref d), some (.ref ds), some (.ref dl), y3, y4, y5] ∧ Same (upd H d (.frz od (.dK kvs))) H7 ∧ H7 dl = some (.lst vs) ∧ Paired (RAct H7) vs as ∧ as.length ≤ i * 6000 ∧ ∀ a, a ∈ as ↔ S0 i a)
      ⟨none, none, none, [], [], rfl, s0, by rw [upd_ne nld, upd_same], .nil, Nat.zero_le _, fun a => ⟨(fun h => by cases h), fun ⟨_, _, _, _, h, _⟩ => absurd h (Nat.not_lt_zero _)⟩⟩ (fun i σ H7 _ ⟨_, _, _, _, _, _, sm, _⟩ => sm _ _ upd_same) ?_ ?_⟩⟩
    · rintro i yv σ H7 H8 hi ⟨y3, y4, y5, vs, as, rfl, sm, hl, hp, hlen, hmem⟩ ⟨rfl, kk, vv, hkv, rfl⟩
      obtain ⟨xm, hxm, ek, hM⟩ := pget hms hkv
      cases (show kk = _ from ek)
      have him : i < ms.length := (List.getElem?_eq_some_iff.mp hxm).1
      obtain ⟨j, hj⟩ : ∃ j, js[i]? = some j := ⟨_, List.getElem?_eq_getElem (by omega)⟩
      obtain ⟨v2, hv2, hval, _⟩ := ms_val hms hnd hxm
      rw [hkv] at hv2
      cases hv2
      have hsv := stK_val hjl hnd hxm hj
      obtain ⟨mok, hjr, mrl⟩ := hmo i xm j hxm hj
      have t8 := t0.trans (Same.ts sm)
      obtain ⟨pm, vr, ve, rfl, hpm, ⟨pr, vrs, rfl, hpr, prs⟩, _⟩ := RTbl.tm _ _ _ _ t8 hM
      obtain ⟨row, hrow⟩ : ∃ row, xm.2.rows[j]? = some row := ⟨_, List.getElem?_eq_getElem hjr⟩
      have hrm : row ∈ xm.2.rows := List.mem_of_getElem? hrow
      obtain ⟨rv, hrv, p5, vs5, rfl, hp5, prow⟩ := pget' prs hrow
      have hrl := mrl row hrm
      refine ⟨.ref d, rfl, _, rfl, d, _, rfl, .inl ⟨kvs, keyS xm.1, .inr ⟨od, sm _ _ upd_same⟩, rfl, hval.symm⟩, pm, _, _, .ref pr, rfl, rfl, SqT.of hpm, atI_nat (j := 1) rfl, .ref ds, rfl, _, rfl, ds, _, rfl, .inl ⟨stK ms js, keyS xm.1, hst sm, rfl, hsv.symm⟩, pr, _, _, .ref p5, rfl, rfl, SqT.of hpr, atI_nat hrv, p5, rfl, ⟨_, SqT.of hp5⟩,
        for_it (walk_tup (xs := vs5)) (fun n σ H9 => ∃ y4 y5 vs as, σ = [some (.ref d), some (.ref ds), some (.ref dl), some (kV (.inr xm.1)), y4, y5] ∧ Same (upd H d (.frz od (.dK kvs))) H9 ∧ TSm H8 H9 ∧ H9 dl = some (.lst vs) ∧ Paired (RAct H9) vs as ∧ as.length ≤ i * 6000 + n ∧ ∀ a, a ∈ as ↔ S0 i a ∨ ∃ q ∈ row.take n, q.1 = a ∧ a.1 = xm.1)
        ⟨_, _, vs, as, rfl, sm, TSm.rfl, hl, hp, hlen, fun a => by rw [hmem]; simp⟩ (fun n σ H9 _ ⟨_, _, _, _, _, _, t9, _⟩ => SqT.of (t9 _ _ hp5)) ?_ ?_⟩
      · rintro n yv σ H9 H10 hn ⟨y4, y5, vs9, as9, rfl, s9, t9, hl9, hp9, hlen9, hmem9⟩ ⟨rfl, hyn⟩
        obtain ⟨pq, hpq, p6, va, vb, rfl, hp6, ⟨pa, rfl, hpa⟩, hvb⟩ := pget prow hyn
        have hva : RAct H10 (.ref pa) pq.1 := ⟨pa, rfl, t9 _ _ hpa⟩
        have a5 : n < 6000 := by rw [plen prow] at hn; omega
        have a6 : i ≤ 60 := by omega
        have a7 : i * 6000 ≤ 60 * 6000 := Nat.mul_le_mul_right 6000 a6
        refine ⟨p6, _, rfl, SqT.of (t9 _ _ hp6), rfl, _, _, rfl, _, _, rfl, rfl, ?_⟩
        refine ⟨_, rfl, pa, _, _, .str pq.1.1, rfl, rfl, SqT.of (t9 _ _ hpa), atI_nat (j := 0) rfl, _, rfl, rfl, _, rfl, ite2 (fun e1 => ?_) (fun e1 => ?_)⟩
        · have e1 : pq.1.1 = xm.1 := V.str.inj (of_decide_eq_true e1)
          refine ⟨.ref dl, rfl, .inl ⟨rfl, _, .inl (.inl hl9)⟩, _, rfl, dl, vs9, _, rfl, rfl, hl9, by have := plen hp9; rw [sizeLine_eq]; omega, ?_⟩
          have tF : TSm H10 (upd H10 dl (.lst (vs9 ++ [.ref pa]))) := TSm.re hl9 (fun _ => nofun)
          refine ⟨_, _, vs9 ++ [.ref pa], as9 ++ [pq.1], rfl, same_re s9 ndl', t9.trans tF, upd_same, psnoc (RAct.tm.ps tF hp9) (RAct.tm _ _ _ _ tF hva), by rw [List.length_append, List.length_singleton]; omega, fun a => ?_⟩
          rw [List.mem_append, hmem9, take_snoc hpq, List.mem_singleton]
          constructor
          · rintro ((h | ⟨q, h1, h2, h3⟩) | rfl)
            · exact .inl h
            · exact .inr ⟨q, List.mem_append_left _ h1, h2, h3⟩
            · exact .inr ⟨pq, List.mem_append_right _ (by simp), rfl, e1⟩
          · rintro (h | ⟨q, h1, h2, h3⟩)
            · exact .inl (.inl h)
            · rcases List.mem_append.mp h1 with h1 | h1
              · exact .inl (.inr ⟨q, h1, h2, h3⟩)
              · have : q = pq := by simpa using h1
                subst this
                exact .inr h2.symm
        · refine ⟨_, _, vs9, as9, rfl, s9, t9, hl9, hp9, by omega, fun a => ?_⟩
          rw [hmem9, take_snoc hpq]
          constructor
          · rintro (h | ⟨q, h1, h2, h3⟩)
            · exact .inl h
            · exact .inr ⟨q, List.mem_append_left _ h1, h2, h3⟩
          · rintro (h | ⟨q, h1, h2, h3⟩)
            · exact .inl h
            · rcases List.mem_append.mp h1 with h1 | h1
              · exact .inr ⟨q, h1, h2, h3⟩
              · have : q = pq := by simpa using h1
                subst this
                refine absurd ?_ e1
                rw [h2]
                exact decide_eq_true (congrArg V.str h3)
      · rintro σ H9 ⟨y4, y5, vs9, as9, rfl, s9, t9, hl9, hp9, hlen9, hmem9⟩
        have et : row.take vs5.length = row := by rw [plen prow]; exact List.take_length
        have el : vs5.length = row.length := plen prow
        refine ⟨_, _, _, vs9, as9, rfl, s9, hl9, hp9, by rw [Nat.add_mul]; omega, fun a => ?_⟩
        rw [hmem9, et]
        constructor
        · rintro (⟨i', x', j', g', h0, h1⟩ | ⟨pq, h1, h2, h3⟩)
          · exact ⟨i', x', j', g', by omega, h1⟩
          · exact ⟨i, xm, j, pq.2, by omega, hxm, hj, h3, by rw [← h2]; exact mok.next_of hrow h1⟩
        · rintro ⟨i', x', j', g', h0, h1, h2, h3, h4⟩
          by_cases e : i' = i
          · subst e
            rw [hxm] at h1
            cases h1
            rw [hj] at h2
            cases h2
            obtain ⟨row', q1, q2⟩ := Tbl.OK.of_next h4
            rw [hrow] at q1
            cases q1
            exact .inr ⟨_, q2, rfl, h3⟩
          · exact .inl ⟨i', x', j', g', by omega, h1, h2, h3, h4⟩
    · rintro σ H7 ⟨y3, y4, y5, vs, as, rfl, sm, hl, hp, hlen, hmem⟩
      refine ⟨sm _ _ upd_same, ?_⟩
      have sF := same_unlock hd sm
      have tF : TSm H7 (upd H7 d (.dK kvs)) := TSm.re (sm _ _ upd_same) (fun _ => nofun)
      have hlF : (upd H7 d (.dK kvs)) dl = some (.lst vs) := by rw [upd_ne nld]; exact hl
      have a8 : kvs.length * 6000 ≤ 60 * 6000 := Nat.mul_le_mul_right 6000 (by omega)
      refine ⟨.ref dl, rfl, dl, vs, as, rfl, SqL.of hlF, RAct.tm.ps tF hp, by omega, fun vs' as' p pm hp' np => ?_⟩
      refine q _ p as' (sF.trans (same_upd np)) (sF.free np) ⟨p, vs', rfl, upd_same, pmono hp' fun _ _ z => RAct.mono _ _ _ _ (same_upd np) z⟩ fun a => ?_
      rw [pm.mem_iff, hmem]
      constructor
      · rintro ⟨i, x, j, g, _, h⟩
        exact ⟨i, x, j, g, h⟩
      · rintro ⟨i, x, j, g, h1, h⟩
        exact ⟨i, x, j, g, by rw [kl]; exact (List.getElem?_eq_some_iff.mp h1).1, h1, h⟩
end
end PL
namespace PL
open PySem PySem.Spec PyProof.Rows L2
/-- a run after which a party may send and another take what the table does not know -/
def Stray (T : Tbl) (r : List Act) (s : Nat) : Prop := ∃ a n m, Kn T a.1 (vw r a.1 ++ [a]) n ∧ Kn T a.2.1 (vw r a.2.1 ++ [a]) m ∧ T.next s a = none
def Idle (T : Tbl) (r : List Act) (s : Nat) : Prop := T.ends.getD s false = false ∧ ∀ a g, T.next s a = some g → ∃ n, Kn T a.1 (vw r a.1) n ∧ T.ends.getD n false = true
theorem kn_occ {T : Tbl} {p : Str} {w : List Act} {a : Act} {n : Nat} (h : Kn T p (w ++ [a]) n) : Occ T a.1 ∧ Occ T a.2.1 ∧ conc a p = true := by
  obtain ⟨s, g, _, h2, h3, _⟩ := kn_snoc.mp h
  obtain ⟨row, q1, q2⟩ := Tbl.OK.of_next h3
  exact ⟨⟨row, List.mem_of_getElem? q1, _, q2, .inl rfl⟩, ⟨row, List.mem_of_getElem? q1, _, q2, .inr rfl⟩, h2⟩
theorem conc1 (a : Act) : conc a a.1 = true := by simp [conc]
theorem conc2 (a : Act) : conc a a.2.1 = true := by simp [conc]
/-- the machine of a party, by place -/
theorem ms_at {T : Tbl} {ms : Ms} (hm : MsOk T ms) {r : List Act} {s : Nat} {js : List Nat} (h : RJ T ms r (s :: js)) {p : Str} (hp : Occ T p) : ∃ (i : Nat) (x : Str × Tbl) (j : Nat), ms[i]? = some x ∧ js[i]? = some j ∧ x.1 = p ∧ x.2.walk (vw r p) = some j ∧ Mach T p x.2 := by
  obtain ⟨x, hx, e⟩ := List.mem_map.mp ((hm.mem p).mpr hp)
  obtain ⟨i, hi, ei⟩ := List.getElem_of_mem hx
  have hxi : ms[i]? = some x := by rw [List.getElem?_eq_getElem hi, ei]
  obtain ⟨s0, js0, e0, _, h2⟩ := h
  cases e0
  obtain ⟨j, hj, hw⟩ := pget h2 hxi
  rw [e] at hw
  exact ⟨i, x, j, hxi, hj, e, hw, e ▸ hm.mach x hx⟩
/-- a machine can go on -/
theorem mach_next {T M : Tbl} {p : Str} (hM : Mach T p M) {w : List Act} {j : Nat} {a : Act} (hj : M.walk w = some j) : (∃ g, M.next j a = some g) ↔ ∃ n, Kn T p (w ++ [a]) n := by
  constructor
  · rintro ⟨g, hg⟩
    exact hM.kn (w ++ [a]) g (by rw [walk_snoc, hj]; exact hg)
  · rintro ⟨n, hn⟩
    obtain ⟨g, hg⟩ := hM.of _ _ hn
    rw [walk_snoc, hj] at hg
    exact ⟨g, hg⟩
theorem sends_iff {T : Tbl} {ms : Ms} (hm : MsOk T ms) {r : List Act} {s : Nat} {js : List Nat} (h : RJ T ms r (s :: js)) (a : Act) : Sends ms js a ↔ ∃ n, Kn T a.1 (vw r a.1 ++ [a]) n := by
  constructor
  · rintro ⟨i, x, j, g, h1, h2, h3, h4⟩
    obtain ⟨s0, js0, e0, _, hp⟩ := h
    cases e0
    obtain ⟨j', hj', hw⟩ := pget hp h1
    rw [h2] at hj'
    cases hj'
    rw [h3]
    exact (mach_next (hm.mach x (List.mem_of_getElem? h1)) hw).mp ⟨g, h4⟩
  · rintro ⟨n, hn⟩
    obtain ⟨i, x, j, h1, h2, h3, h4, h5⟩ := ms_at hm h (kn_occ hn).1
    obtain ⟨g, hg⟩ := (mach_next h5 h4).mpr ⟨n, hn⟩
    exact ⟨i, x, j, g, h1, h2, h3.symm, hg⟩
/-- what the three judge by is told by the joint state -/
theorem knows_eq {T : Tbl} {ms : Ms} (hm : MsOk T ms) {r r' : List Act} {l : List Nat} (h : RJ T ms r l) (h' : RJ T ms r' l) {p : Str} (hp : Occ T p) : (∀ a, (∃ n, Kn T p (vw r p ++ [a]) n) ↔ ∃ n, Kn T p (vw r' p ++ [a]) n) ∧ ((∃ n, Kn T p (vw r p) n ∧ T.ends.getD n false = true) ↔ ∃ n, Kn T p (vw r' p) n ∧ T.ends.getD n false = true) := by
  obtain ⟨s, js, rfl, _, _⟩ := id h
  obtain ⟨i, x, j, h1, h2, h3, h4, h5⟩ := ms_at hm h hp
  obtain ⟨s0, js0, e0, _, hp'⟩ := h'
  cases e0
  obtain ⟨j', hj', hw'⟩ := pget hp' h1
  rw [h2] at hj'
  cases hj'
  rw [h3] at hw'
  exact ⟨fun a => (mach_next h5 h4).symm.trans (mach_next h5 hw'), (h5.ends _ _ h4).symm.trans (h5.ends _ _ hw')⟩
theorem stray_eq {T : Tbl} {ms : Ms} (hm : MsOk T ms) {r r' : List Act} {l : List Nat} {s : Nat} (h : RJ T ms r l) (h' : RJ T ms r' l) : Stray T r s → Stray T r' s := by
  rintro ⟨a, n, m, h1, h2, h3⟩
  have o1 := kn_occ h1
  obtain ⟨n', hn'⟩ := ((knows_eq hm h h' o1.1).1 a).mp ⟨n, h1⟩
  obtain ⟨m', hm'⟩ := ((knows_eq hm h h' o1.2.1).1 a).mp ⟨m, h2⟩
  exact ⟨a, n', m', hn', hm', h3⟩
theorem next_occ {T : Tbl} {s g : Nat} {a : Act} (h : T.next s a = some g) : Occ T a.1 := by
  obtain ⟨row, q1, q2⟩ := Tbl.OK.of_next h
  exact ⟨row, List.mem_of_getElem? q1, _, q2, .inl rfl⟩
theorem idle_eq {T : Tbl} {ms : Ms} (hm : MsOk T ms) {r r' : List Act} {l : List Nat} {s : Nat} (h : RJ T ms r l) (h' : RJ T ms r' l) : Idle T r s → Idle T r' s := by
  rintro ⟨h1, h2⟩
  exact ⟨h1, fun a g hg => ((knows_eq hm h h' (next_occ hg)).2).mp (h2 a g hg)⟩
theorem JR.runLen {T : Tbl} {ms : Ms} {r : List Act} {s : Nat} {js : List Nat} (h : RJ T ms r (s :: js)) : js.length = ms.length ∧ T.walk r = some s := by
  obtain ⟨s0, js0, e0, h1, hp⟩ := h
  cases e0
  exact ⟨(plen hp).symm, h1⟩
/-- the states lie in the machines -/
theorem JR.bnd {T : Tbl} {ms : Ms} (hm : MsOk T ms) {r : List Act} {s : Nat} {js : List Nat} (h : RJ T ms r (s :: js)) : ∀ (i : Nat) x j, ms[i]? = some x → js[i]? = some j → x.2.OK ∧ j < x.2.rows.length ∧ ∀ r ∈ x.2.rows, r.length ≤ 6000 := by
  intro i x j hx hj
  obtain ⟨s0, js0, e0, h1, hp⟩ := h
  cases e0
  obtain ⟨j', hj', hw⟩ := pget hp hx
  rw [hj] at hj'
  cases hj'
  have M := hm.mach x (List.mem_of_getElem? hx)
  exact ⟨M.ok, walk_lt M.ok hw, M.rowlen⟩
abbrev sStray : Stmt := topS 30
abbrev nStray : List Str := ["table", "machines", "joint", "run", "states", "action", "taker", "first", "second"]
theorem scStray : FnScope nStray ["table", "machines", "joint", "run"] (defScope sStray) := ⟨rfl, rfl, rfl, by decide +kernel, rfl, by decide +kernel, by decide +kernel⟩
def spStray : Sp := fun vs H Q _ => ∃ x y z v T ms s js r, vs = [x, y, z, v] ∧ RTbl H x T ∧ T.OK ∧ T.rows.length ≤ 60 ∧ RMs H y ms ∧ MsOk T ms ∧ RTup RNat H z (s :: js) ∧ RJ T ms r (s :: js) ∧ RRun H v r ∧ r.length ≤ 3000 ∧
  (Stray T r s → ∀ (H' : Hp) (q : Addr) (xs : List V), Same H H' → H q = none → H' q = some (.tup (.str "stray" :: xs)) → Q (.ref q) H') ∧ (¬ Stray T r s → ∀ H', Same H H' → Q .non H')
section
variable {P : Program} {w : World} {K : PySem.W.Frag} {mg : Str → Option Value} {base : Heap}
theorem ok_stray {f fB fS fN fA fV : Addr} {fd fdB fdS fdN fdA fdV : FuncData} {k : Nat} (F : Fun K "stray_at" "stray_at" sStray f fd)
    (GB : FnOk P w K mg base CX0 k fB fdB ["machines", "joint"] spSbp) (kB : PySem.W.keepIn K (.ref fB) = true) (bB : Binds K fdB ["machines", "joint"] []) (gB : mg "states_by_party" = some (.ref fB))
    (GS : FnOk P w K mg base CX0 k fS fdS ["machines", "states"] spSends) (kS : PySem.W.keepIn K (.ref fS) = true) (bS : Binds K fdS ["machines", "states"] []) (gS : mg "sends_at" = some (.ref fS))
    (GN : FnOk P w K mg base CX0 k fN fdN ["table", "state", "action"] spNext) (kN : PySem.W.keepIn K (.ref fN) = true) (bN : Binds K fdN ["table", "state", "action"] []) (gN : mg "next_state" = some (.ref fN))
    (GA : FnOk P w K mg base CX0 k fA fdA ["table", "party", "sight", "wanted"] spSeen) (kA : PySem.W.keepIn K (.ref fA) = true) (bA : Binds K fdA ["table", "party", "sight", "wanted"] []) (gA : mg "seen_alike" = some (.ref fA))
    (GV : FnOk P w K mg base CX0 k fV fdV ["actions", "party"] spView) (kV' : PySem.W.keepIn K (.ref fV) = true) (bV : Binds K fdV ["actions", "party"] []) (gV : mg "view" = some (.ref fV)) : FnOk P w K mg base CX0 (k + 1) f fd ["table", "machines", "joint", "run"] spStray := by
  refine F.ok scStray (fun vs H Q E h => ?_) (fun cdv A outer s0 H vs Q E hr h => ?_)
  · obtain ⟨x, y, z, v, T, ms, s, js, r, rfl, _⟩ := h
    rfl
  · obtain ⟨x, y, z, v, T, ms, s, js, r, rfl, hT, hok, h60, hms, hm, hz, hRJ, hv, hrl, q1, q2⟩ := h
    have hu := hu_of hr
    have nd := scStray.nd
    refine ⟨_, pss_cons (ps_set (i := 4) nd rfl (.inl rfl) (pe_call GB hr (by rfl) gB kB bB .nil pass0 (pa_cons (pv 1) (pa_cons (pv 2) pa_nil))))
      (pss_cons (ps_for PassesOwn.never rfl (pi_list (pe_call GS hr (by rfl) gS kS bS .nil pass0 (pa_cons (pv 1) (pa_cons (pv 4) pa_nil)))) (pg_name (i := 5) nd rfl (.inl rfl))
        (pss_cons (ps_set (i := 6) nd rfl (.inl rfl) (pe_ix ix_tup (pv 5) pe_int (fun _ _ => rfl)))
        (pss_one (ps_if (pt_cmp (pc_notN (pe_call GN hr (by rfl) gN kN bN .nil pass0 (pa_cons (pe_dget hu (pv 1) (pv 6) (fun _ _ => rfl)) (pa_cons (pe_dget hu (pv 4) (pv 6) (fun _ _ => rfl)) (pa_cons (pv 5) pa_nil))))))
          (pss_one (ps_if (pt_cmp (pc_isN (pe_call GN hr (by rfl) gN kN bN .nil pass0 (pa_cons (pv 0) (pa_cons (pe_ix ix_tup (pv 2) pe_int (fun _ _ => rfl)) (pa_cons (pv 5) pa_nil))))))
            (pss_cons (ps_set (i := 7) nd rfl (.inl rfl) (pe_call GA hr (by rfl) gA kA bA .nil pass0 (pa_cons (pv 0) (pa_cons (pe_ix ix_tup (pv 5) pe_int (fun _ _ => rfl)) (pa_cons (pe_call GV hr (by rfl) gV kV' bV .nil pass0 (pa_cons (pv 3) (pa_cons (pe_ix ix_tup (pv 5) pe_int (fun _ _ => rfl)) pa_nil))) (pa_cons (pv 5) pa_nil))))))
            (pss_cons (ps_set (i := 8) nd rfl (.inl rfl) (pe_call GA hr (by rfl) gA kA bA .nil pass0 (pa_cons (pv 0) (pa_cons (pv 6) (pa_cons (pe_call GV hr (by rfl) gV kV' bV .nil pass0 (pa_cons (pv 3) (pa_cons (pv 6) pa_nil))) (pa_cons (pv 5) pa_nil))))))
            (pss_one (ps_ret (pe_tup (pa_cons pe_str (pa_cons (pv 3) (pa_cons (pv 5) (pa_cons (pv 7) (pa_cons (pv 8) pa_nil)))))))))) pss_nil)) pss_nil))))
      (pss_one (ps_ret pe_non))), ?_⟩
    obtain ⟨hjl, hws⟩ := JR.runLen hRJ
    have hbnd := JR.bnd hm hRJ
    obtain ⟨pj, jvs, rfl, hpj, hjv⟩ := id hz
    have ejv := pnat hjv
    subst ejv
    have hsl := walk_lt hok hws
    refine ⟨_, rfl, _, rfl, _, _, ms, s, js, rfl, hms, hm.nd, hm.len, hz, hjl, fun H1 ds s1 nds hds => ?_⟩
    refine ⟨_, rfl, _, rfl, _, ds, ms, js, rfl, RMs.mono _ _ _ _ s1 hms, hm.nd, hm.len, hds, hjl, hbnd, fun H2 la acts s2 nla hacts hmem => ?_⟩
    obtain ⟨la', avs, ea, hla, hav⟩ := id hacts
    cases ea
    have s02 := s1.trans s2
    refine ⟨la, rfl, ⟨_, SqL.of hla⟩, for_it (walk_list (xs := avs)) (fun i σ H7 => ∃ y5 y6, σ = [some x, some y, some (.ref pj), some v, some (.ref ds), y5, y6, none, none] ∧ Same H2 H7 ∧ ∀ a ∈ acts.take i, (∃ m, Kn T a.2.1 (vw r a.2.1 ++ [a]) m) → T.next s a ≠ none)
      ⟨none, none, rfl, fun _ _ h => h, by simp⟩ (fun i σ H7 _ ⟨_, _, _, sm, _⟩ => SqL.of (sm _ _ hla)) ?_ ?_⟩
    · rintro i yv σ H7 H8 hi ⟨y5, y6, rfl, sm, hdone⟩ ⟨rfl, hyi⟩
      obtain ⟨a, ha, pa, rfl, hpa⟩ := pget hav hyi
      have ham : a ∈ acts := List.mem_of_getElem? ha
      have s07 := s02.trans sm
      have hra : RAct H8 (.ref pa) a := ⟨pa, rfl, sm _ _ hpa⟩
      obtain ⟨n, hn⟩ := (sends_iff hm hRJ a).mp ((hmem a).mp ham)
      have o2 := (kn_occ hn).2.1
      obtain ⟨it, xt, jt, t1, t2, t3, t4, t5⟩ := ms_at hm hRJ o2
      obtain ⟨d, kvs, rfl, hd, hmsp⟩ := RMs.mono _ _ _ _ s07 hms
      obtain ⟨mv, _, hval, hMt⟩ := ms_val hmsp hm.nd t1
      have hsv := stK_val hjl hm.nd t1 t2
      rw [t3] at hval hsv
      have hrun8 : RRun H8 v r := RRun.mono _ _ _ _ s07 hv
      refine ⟨_, rfl, pa, _, _, .str a.2.1, rfl, rfl, SqT.of (sm _ _ hpa), atI_nat (j := 1) rfl, ?_⟩
      refine ⟨_, rfl, _, rfl, d, mv, rfl, .inl ⟨kvs, keyS a.2.1, .inl hd, rfl, hval.symm⟩, _, rfl, _, rfl, ds, _, rfl, .inl ⟨stK ms js, keyS a.2.1, .inl ((s2.trans sm) _ _ hds), rfl, hsv.symm⟩, _, rfl, mv, _, xt.2, jt, a, rfl, hMt, (hbnd it xt jt t1 t2).2.1, hra, _, rfl, ite2 (fun e1 => ?_) (fun e1 => ?_)⟩
      · have kn2 : ∃ m, Kn T a.2.1 (vw r a.2.1 ++ [a]) m := by
          refine (mach_next t5 t4).mp ?_
          cases hg : xt.2.next jt a with
          | none => rw [hg] at e1; simp [ov] at e1
          | some g => exact ⟨g, rfl⟩
        refine ⟨_, rfl, _, rfl, pj, _, _, .int (s : Int), rfl, rfl, SqT.of (s07 _ _ hpj), atI_nat (j := 0) rfl, _, rfl, x, _, T, s, a, rfl, RTbl.mono _ _ _ _ s07 hT, hsl, hra, _, rfl, ite2 (fun e2 => ?_) (fun e2 => ?_)⟩
        · have hnone : T.next s a = none := by
            cases hg : T.next s a with
            | none => rfl
            | some g => rw [hg] at e2; simp [ov] at e2
          obtain ⟨m, hmk⟩ := kn2
          have hst : Stray T r s := ⟨a, n, m, hn, hmk, hnone⟩
          have vl : ∀ p, (vw r p).length ≤ 3000 := fun p => Nat.le_trans (List.length_filter_le _ _) hrl
          refine ⟨_, rfl, _, rfl, pa, _, _, .str a.1, rfl, rfl, SqT.of (sm _ _ hpa), atI_nat (j := 0) rfl, _, rfl, _, rfl, pa, _, _, .str a.1, rfl, rfl, SqT.of (sm _ _ hpa), atI_nat (j := 0) rfl, v, r, a.1, rfl, hrun8, by omega, fun H9 pv1 s9 npv1 hpv1 => ?_⟩
          refine ⟨_, rfl, x, a.1, .ref pv1, .ref pa, T, vw r a.1, some a, rfl, RTbl.mono _ _ _ _ (s07.trans s9) hT, hok, h60, hpv1, vl _, RAct.mono _ _ _ _ s9 hra, fun H10 v1 s10 => ?_⟩
          have s8a := s9.trans s10
          refine ⟨_, rfl, _, rfl, _, rfl, _, rfl, v, r, a.2.1, rfl, RRun.mono _ _ _ _ s8a hrun8, by omega, fun H11 pv2 s11 npv2 hpv2 => ?_⟩
          have s8b := s8a.trans s11
          refine ⟨_, rfl, x, a.2.1, .ref pv2, .ref pa, T, vw r a.2.1, some a, rfl, RTbl.mono _ _ _ _ (s07.trans s8b) hT, hok, h60, hpv2, vl _, RAct.mono _ _ _ _ s8b hra, fun H12 v2 s12 => ?_⟩
          have s0F := s07.trans (s8b.trans s12)
          refine ⟨_, rfl, _, rfl, _, rfl, _, rfl, Nat.le_of_ble_eq_true rfl, fun qt nqt => ?_⟩
          exact q1 hst _ qt _ (s0F.trans (same_upd nqt)) (s0F.free nqt) upd_same
        · refine ⟨_, _, rfl, sm, fun b hb hk => ?_⟩
          rw [take_snoc ha] at hb
          rcases List.mem_append.mp hb with hb | hb
          · exact hdone b hb hk
          · have : b = a := by simpa using hb
            subst this
            intro z
            rw [z] at e2
            exact e2 rfl
      · refine ⟨_, _, rfl, sm, fun b hb hk => ?_⟩
        rw [take_snoc ha] at hb
        rcases List.mem_append.mp hb with hb | hb
        · exact hdone b hb hk
        · have : b = a := by simpa using hb
          subst this
          obtain ⟨g, hg⟩ := (mach_next t5 t4).mpr hk
          rw [hg] at e1
          exact absurd rfl e1
    · rintro σ H7 ⟨y5, y6, rfl, sm, hdone⟩
      refine q2 (fun ⟨a, n, m, h1, h2, h3⟩ => ?_) H7 (s02.trans sm)
      have et : acts.take avs.length = acts := by rw [plen hav]; exact List.take_length
      rw [et] at hdone
      exact hdone a ((hmem a).mpr ((sends_iff hm hRJ a).mpr ⟨n, h1⟩)) ⟨m, h2⟩ h3
end
end PL
namespace PL
open PySem PySem.Spec PyProof.Rows L2
abbrev sIdle : Stmt := topS 31
abbrev nIdle : List Str := ["table", "machines", "joint", "run", "states", "senders", "party", "others", "action", "_"]
theorem scIdle : FnScope nIdle ["table", "machines", "joint", "run"] (defScope sIdle) := ⟨rfl, rfl, rfl, by decide +kernel, rfl, by decide +kernel, by decide +kernel⟩
def spIdle : Sp := fun vs H Q _ => ∃ x y z v T ms s js r, vs = [x, y, z, v] ∧ RTbl H x T ∧ T.OK ∧ T.rows.length ≤ 60 ∧ (∀ r ∈ T.rows, r.length ≤ 100) ∧ RMs H y ms ∧ MsOk T ms ∧ RTup RNat H z (s :: js) ∧ RJ T ms r (s :: js) ∧ RRun H v r ∧ r.length ≤ 3000 ∧
  (Idle T r s → ∀ (H' : Hp) (q : Addr) (xs : List V), Same H H' → H q = none → H' q = some (.tup (.str "idle" :: xs)) → Q (.ref q) H') ∧ (¬ Idle T r s → ∀ H', Same H H' → Q .non H')
section
variable {P : Program} {w : World} {K : PySem.W.Frag} {mg : Str → Option Value} {base : Heap}
theorem ok_idle {f fB fA fV : Addr} {fd fdB fdA fdV : FuncData} {k : Nat} (F : Fun K "idle_at" "idle_at" sIdle f fd)
    (GB : FnOk P w K mg base CX0 k fB fdB ["machines", "joint"] spSbp) (kB : PySem.W.keepIn K (.ref fB) = true) (bB : Binds K fdB ["machines", "joint"] []) (gB : mg "states_by_party" = some (.ref fB))
    (GA : FnOk P w K mg base CX0 k fA fdA ["table", "party", "sight", "wanted"] spSeen) (kA : PySem.W.keepIn K (.ref fA) = true) (bA : Binds K fdA ["table", "party", "sight", "wanted"] []) (gA : mg "seen_alike" = some (.ref fA))
    (GV : FnOk P w K mg base CX0 k fV fdV ["actions", "party"] spView) (kV' : PySem.W.keepIn K (.ref fV) = true) (bV : Binds K fdV ["actions", "party"] []) (gV : mg "view" = some (.ref fV)) (mS : mg "sorted" = none) : FnOk P w K mg base CX0 (k + 1) f fd ["table", "machines", "joint", "run"] spIdle := by
  refine F.ok scIdle (fun vs H Q E h => ?_) (fun cdv A outer s0 H vs Q E hr h => ?_)
  · obtain ⟨x, y, z, v, T, ms, s, js, r, rfl, _⟩ := h
    rfl
  · obtain ⟨x, y, z, v, T, ms, s, js, r, rfl, hT, hok, h60, hrows, hms, hm, hz, hRJ, hv, hrl, q1, q2⟩ := h
    have hu := hu_of hr
    have nd := scIdle.nd
    refine ⟨_, pss_cons (ps_if (pt_val (pe_ix ix_tup (pe_ix ix_tup (pv 0) pe_int (fun _ _ => rfl)) (pe_ix ix_tup (pv 2) pe_int (fun _ _ => rfl)) (fun _ _ => rfl))) (pss_one (ps_ret pe_non)) pss_nil)
      (pss_cons (ps_set (i := 4) nd rfl (.inl rfl) (pe_call GB hr (by rfl) gB kB bB .nil pass0 (pa_cons (pv 1) (pa_cons (pv 2) pa_nil))))
      (pss_cons (ps_set (i := 5) nd rfl (.inl rfl) (pe_callB (cr_sortS rfl hr.units) (by rfl) mS (by decide +kernel) (pa_cons (pe_scS (own := [("action", 8), ("_", 9)]) (g := g2 K 8 9) (by rfl) nd (pi_tup (pe_ix ix_tup (pe_ix ix_tup (pv 0) pe_int (fun _ _ => rfl)) (pe_ix ix_tup (pv 2) pe_int (fun _ _ => rfl)) (fun _ _ => rfl))) (blkOk_by (N := nIdle) (sc := defScope sIdle) (by decide +kernel))
          (fun _ _ _ _ _ => pg_tupK rfl rfl (pgs_cons (pg_name (i := 8) nd rfl (Or.inl rfl)) (pgs_cons (pg_name (i := 9) nd rfl (Or.inl rfl)) pgs_nil))) (fun _ _ _ _ _ => pts_nil) (fun _ _ _ _ _ => pe_ix (ix_tupK (K := K) rfl) (pv 8) pe_int (fun _ _ => rfl))) pa_nil)))
      (pss_cons (ps_for PassesOwn.never rfl (pi_list (pv 5)) (pg_name (i := 6) nd rfl (.inl rfl))
        (pss_one (ps_if (pt_not (pt_val (pe_ix ix_tup (pe_ix ix_tup (pe_dget hu (pv 1) (pv 6) (fun _ _ => rfl)) pe_int (fun _ _ => rfl)) (pe_dget hu (pv 4) (pv 6) (fun _ _ => rfl)) (fun _ _ => rfl)))) (pss_one (ps_ret pe_non)) pss_nil)))
      (pss_cons (ps_setLc (i := 7) (own := [("party", 6)]) (g := gName 6) (by rfl) nd rfl rfl (sw_true rfl rfl rfl (by decide +kernel)) (pi_list (pv 5)) (blkOk_by (N := nIdle) (sc := defScope sIdle) (by decide +kernel)) (fun _ _ _ _ _ => pg_name (i := 6) nd rfl (Or.inl rfl)) (fun _ _ _ _ _ => pts_nil)
        (fun _ _ _ _ _ => pe_tup (pa_cons (pv 6) (pa_cons (pe_call GA hr (by rfl) gA kA bA .nil pass0 (pa_cons (pv 0) (pa_cons (pv 6) (pa_cons (pe_call GV hr (by rfl) gV kV' bV .nil pass0 (pa_cons (pv 3) (pa_cons (pv 6) pa_nil))) (pa_cons pe_non pa_nil))))) pa_nil))))
      (pss_one (ps_ret (pe_tup (pa_cons pe_str (pa_cons (pv 3) (pa_cons (pv 7) pa_nil)))))))))), ?_⟩
    obtain ⟨hjl, hws⟩ := JR.runLen hRJ
    obtain ⟨pj, jvs, rfl, hpj, hjv⟩ := id hz
    have ejv := pnat hjv
    subst ejv
    have hsl := walk_lt hok hws
    obtain ⟨pt, vr, ve, rfl, hpt, ⟨pr, vrs, rfl, hpr, prs⟩, ⟨pe, ves, rfl, hpe, pes⟩⟩ := id hT
    have eb : ves = T.ends.map V.bl := pbl pes
    subst eb
    have hend : (T.ends.map V.bl)[s]? = some (.bl (T.ends.getD s false)) := by rw [List.getElem?_map, some_getD (d := false) (by rw [hok.len]; exact hsl)]; rfl
    refine ⟨.ref pt, rfl, pt, _, _, .ref pe, rfl, rfl, SqT.of hpt, atI_nat (j := 2) rfl, .ref pj, rfl, pj, _, _, .int (s : Int), rfl, rfl, SqT.of hpj, atI_nat (j := 0) rfl, pe, _, _, _, rfl, rfl, SqT.of hpe, atI_nat hend, _, rfl, ite2 (fun e0 => ?_) (fun e0 => ?_)⟩
    · exact q2 (fun hI => by rw [hI.1] at e0; cases e0) H fun _ _ h => h
    have hends : T.ends.getD s false = false := by
      cases h : T.ends.getD s false with
      | false => rfl
      | true => exact absurd h e0
    refine ⟨_, rfl, _, rfl, _, _, ms, s, js, rfl, hms, hm.nd, hm.len, hz, hjl, fun H1 ds s1 nds hds => ?_⟩
    obtain ⟨row, hrow⟩ : ∃ row, T.rows[s]? = some row := ⟨_, List.getElem?_eq_getElem hsl⟩
    have hrm : row ∈ T.rows := List.mem_of_getElem? hrow
    obtain ⟨rv, hrvx, p5, vs5, rfl, hp5, prow⟩ := pget' prs hrow
    have hrowl := hrows row hrm
    refine ⟨.ref pt, rfl, pt, _, _, .ref pr, rfl, rfl, SqT.of (s1 _ _ hpt), atI_nat (j := 1) rfl, .ref pj, rfl, pj, _, _, .int (s : Int), rfl, rfl, SqT.of (s1 _ _ hpj), atI_nat (j := 0) rfl, pr, _, _, .ref p5, rfl, rfl, SqT.of (s1 _ _ hpr), atI_nat hrvx, p5, rfl, ⟨_, SqT.of (s1 _ _ hp5)⟩,
      fun D nD => ⟨_, _, _, walk_tup (xs := vs5), fun i H2 => Same H1 H2 ∧ ∃ (S : Str → Prop) (n : Nat), H2 D = some (SXo P w D (fun k => ∃ x, k = .inr x ∧ S x) n) ∧ n ≤ i ∧ ∀ p, S p ↔ ∃ q ∈ row.take i, q.1.1 = p, ?_, ?_, ?_, ?_⟩⟩
    · exact ⟨same_upd nD, fun _ => False, 0, upd_same, Nat.le_refl _, fun p => by simp⟩
    · intro i H2 _ ⟨sm, _⟩
      exact SqT.of (sm _ _ (s1 _ _ hp5))
    · rintro i yv H2 H3 hi ⟨sm, S, n, hD, hn, hS⟩ ⟨rfl, hyi⟩
      obtain ⟨pq, hpq, p6, va, vb, rfl, hp6, ⟨pa, rfl, hpa⟩, hvb⟩ := pget prow hyi
      have s02 := s1.trans sm
      have hi2 : i < 100 ∨ i < 4000 := by rw [plen prow] at hi; exact .inr (by omega)
      refine ⟨p6, _, rfl, SqT.of (s02 _ _ hp6), rfl, _, _, rfl, _, _, rfl, rfl, rfl, iteT (B := True) ⟨_, rfl, pa, _, _, .str pq.1.1, rfl, rfl, SqT.of (s02 _ _ hpa), atI_nat (j := 0) rfl, pq.1.1, S, n, rfl, hD, by omega, same_re sm nD, fun x => S x ∨ x = pq.1.1, n + 1, upd_same, by omega, fun p => ?_⟩⟩
      show S p ∨ p = pq.1.1 ↔ _
      rw [hS, take_snoc hpq]
      constructor
      · rintro (⟨q, h1, h2⟩ | e)
        · exact ⟨q, List.mem_append_left _ h1, h2⟩
        · exact ⟨pq, List.mem_append_right _ (by simp), e.symm⟩
      · rintro ⟨q, h1, h2⟩
        rcases List.mem_append.mp h1 with h1 | h1
        · exact .inl ⟨q, h1, h2⟩
        · have : q = pq := by simpa using h1
          subst this
          exact .inr h2.symm
    rintro H2 ⟨sm, S, n, hD, hn, hS⟩
    have el5 : vs5.length = row.length := plen prow
    have et : row.take vs5.length = row := by rw [el5]; exact List.take_length
    rw [et] at hS
    refine ⟨D, S, n, rfl, hD, by omega, fun ys lp hys hyl nlp => ?_⟩
    have s3 := (s1.trans sm).trans (same_upd (o := .lst (ys.map V.str)) nlp)
    obtain ⟨H3, eH3⟩ : ∃ H3, H3 = upd H2 lp (.lst (ys.map V.str)) := ⟨_, rfl⟩
    rw [← eH3] at s3 ⊢
    have hlp : H3 lp = some (.lst (ys.map V.str)) := by rw [eH3, upd_same]
    have s13 : Same H1 H3 := by rw [eH3]; exact sm.trans (same_upd nlp)
    have hy : ∀ p, p ∈ ys ↔ ∃ q ∈ row, q.1.1 = p := fun p => (hys p).trans (hS p)
    refine ⟨_, rfl, lp, rfl, ⟨_, SqL.of hlp⟩, for_it (walk_list (xs := ys.map V.str)) (fun i σ H7 => H7 = H3 ∧ ∃ y6, σ = [some (.ref pt), some y, some (.ref pj), some v, some (.ref ds), some (.ref lp), y6, none, none, none] ∧ ∀ p ∈ ys.take i, ∃ n, Kn T p (vw r p) n ∧ T.ends.getD n false = true)
      ⟨rfl, none, rfl, by simp⟩ (fun i σ H7 _ ⟨e, _⟩ => by subst e; exact SqL.of hlp) ?_ ?_⟩
    · rintro i yv σ H7 H8 hi ⟨rfl, y6, rfl, hdone⟩ ⟨rfl, hyi⟩
      obtain ⟨p, hp, rfl⟩ : ∃ p, ys[i]? = some p ∧ yv = .str p := by
        rw [List.getElem?_map] at hyi
        cases e : ys[i]? with
        | none => rw [e] at hyi; cases hyi
        | some p => rw [e] at hyi; exact ⟨p, rfl, (Option.some.inj hyi).symm⟩
      obtain ⟨q, hq, eq⟩ := (hy p).mp (List.mem_of_getElem? hp)
      have op : Occ T p := ⟨row, hrm, q, hq, .inl eq⟩
      obtain ⟨it, xt, jt, t1, t2, t3, t4, t5⟩ := ms_at hm hRJ op
      obtain ⟨d, kvs, rfl, hd, hmsp⟩ := RMs.mono _ _ _ _ s3 hms
      obtain ⟨mv, _, hval, hMt⟩ := ms_val hmsp hm.nd t1
      have hsv := stK_val hjl hm.nd t1 t2
      rw [t3] at hval hsv
      obtain ⟨pm, mvr, mve, rfl, hpm, _, ⟨pme, mves, rfl, hpme, pmes⟩⟩ := hMt
      have emb : mves = xt.2.ends.map V.bl := pbl pmes
      subst emb
      have hjt := (JR.bnd hm hRJ it xt jt t1 t2).2.1
      have hme : (xt.2.ends.map V.bl)[jt]? = some (.bl (xt.2.ends.getD jt false)) := by rw [List.getElem?_map, some_getD (d := false) (by rw [t5.ok.len]; exact hjt)]; rfl
      refine ⟨_, rfl, _, rfl, d, _, rfl, .inl ⟨kvs, keyS p, .inl hd, rfl, hval.symm⟩, pm, _, _, .ref pme, rfl, rfl, SqT.of hpm, atI_nat (j := 2) rfl, _, rfl, _, rfl, ds, _, rfl, .inl ⟨stK ms js, keyS p, .inl (s13 _ _ hds), rfl, hsv.symm⟩, pme, _, _, _, rfl, rfl, SqT.of hpme, atI_nat hme, _, rfl, ite2 (fun e1 => ?_) (fun e1 => ?_)⟩
      · refine q2 (fun hI => ?_) H8 s3
        have h1 := hI.2 q.1 q.2 (hok.next_of hrow hq)
        rw [eq] at h1
        have h2 := (t5.ends _ _ t4).mpr h1
        rw [h2] at e1
        cases e1
      · refine ⟨rfl, _, rfl, fun p' hp' => ?_⟩
        rw [take_snoc hp] at hp'
        rcases List.mem_append.mp hp' with hp' | hp'
        · exact hdone p' hp'
        · have : p' = p := by simpa using hp'
          subst this
          refine (t5.ends _ _ t4).mp ?_
          cases h : xt.2.ends.getD jt false with
          | true => rfl
          | false => rw [h] at e1; exact absurd rfl e1
    · rintro σ H7 ⟨rfl, y6, rfl, hdone⟩
      have e2 : ys.take (ys.map V.str).length = ys := by rw [List.length_map]; exact List.take_length
      rw [e2] at hdone
      have hI : Idle T r s := by
        refine ⟨hends, fun a g hg => ?_⟩
        obtain ⟨row', w1, w2⟩ := Tbl.OK.of_next hg
        rw [hrow] at w1
        cases w1
        exact hdone a.1 ((hy a.1).mpr ⟨_, w2, rfl⟩)
      have hrun : RRun H7 v r := RRun.mono _ _ _ _ s3 hv
      refine ⟨.ref lp, rfl, lp, rfl, ⟨_, SqL.of hlp⟩, fun dm ndm => lc_it (walk_list (xs := ys.map V.str)) (fun i H8 => Same H7 H8 ∧ ∃ ws, H8 dm = some (.lst ws) ∧ ws.length = i) ⟨same_upd ndm, [], upd_same, rfl⟩ (fun i H8 _ ⟨s8, _⟩ => SqL.of (s8 _ _ hlp)) ?_ ?_⟩
      · rintro i yv H8 H9 hi ⟨s8, ws, hdm, hwl⟩ ⟨rfl, hyi⟩
        obtain ⟨p, hp, rfl⟩ : ∃ p, ys[i]? = some p ∧ yv = .str p := by
          rw [List.getElem?_map] at hyi
          cases e : ys[i]? with
          | none => rw [e] at hyi; cases hyi
          | some p => rw [e] at hyi; exact ⟨p, rfl, (Option.some.inj hyi).symm⟩
        rw [List.length_map] at hi
        have vl : (vw r p).length ≤ 3000 := Nat.le_trans (List.length_filter_le _ _) hrl
        refine ⟨rfl, iteT (B := True) ⟨_, rfl, _, rfl, _, rfl, _, rfl, _, rfl, v, r, p, rfl, RRun.mono _ _ _ _ s8 hrun, by omega, fun H10 pv1 s10 npv1 hpv1 => ?_⟩⟩
        refine ⟨.ref pt, p, .ref pv1, .non, T, vw r p, none, rfl, RTbl.mono _ _ _ _ (s3.trans (s8.trans s10)) hT, hok, h60, hpv1, vl, rfl, fun H11 v1 s11 => ?_⟩
        refine ⟨Nat.le_of_ble_eq_true rfl, fun tt ntt => ?_⟩
        have s9 := (s10.trans s11).trans (same_upd (o := .tup [.str p, v1]) ntt)
        exact ⟨ws, s9 _ _ hdm, by rw [sizeLine_eq]; omega, same_re (s8.trans s9) ndm, _, upd_same, by rw [List.length_append, hwl]; rfl⟩
      · rintro H8 ⟨s8, ws, hdm, hwl⟩
        refine ⟨_, rfl, _, rfl, Nat.le_of_ble_eq_true rfl, fun qt nqt => ?_⟩
        have sF := s3.trans s8
        exact q1 hI _ qt _ (sF.trans (same_upd nqt)) (sF.free nqt) upd_same
end
end PL
namespace PL
open PySem PySem.Spec PyProof.Rows L2
def Acc2 (T : Tbl) : Prop := ∀ r s, T.walk r = some s → ¬ Stray T r s ∧ ¬ Idle T r s
def Ready (T : Tbl) : Prop := ∀ r s, T.walk r = some s → ∀ a n, Kn T a.1 (vw r a.1 ++ [a]) n → T.next s a ≠ none
theorem acc_of {T : Tbl} {ms : Ms} (hm : MsOk T ms) {jr : Jr} (h : JsOk T ms jr) (hd : ∀ x ∈ jr, ∀ s js, x.1 = s :: js → ¬ Stray T x.2 s ∧ ¬ Idle T x.2 s) : Acc2 T := by
  intro r s hw
  obtain ⟨x, hx, hJ⟩ := h.cov r s hw
  obtain ⟨s0, js, e, h1, _⟩ := id hJ
  rw [hw] at h1
  cases h1
  obtain ⟨h2, h3⟩ := hd x hx s js e
  exact ⟨fun z => h2 (stray_eq hm hJ (h.all x hx) z), fun z => h3 (idle_eq hm hJ (h.all x hx) z)⟩
theorem ready_of {T : Tbl} {ms : Ms} (hm : MsOk T ms) {jr : Jr} (h : JsOk T ms jr) (hd : ∀ x ∈ jr, ∀ s js, x.1 = s :: js → ∀ a n, Kn T a.1 (vw x.2 a.1 ++ [a]) n → T.next s a ≠ none) : Ready T := by
  intro r s hw a n hn
  obtain ⟨x, hx, hJ⟩ := h.cov r s hw
  obtain ⟨s0, js, e, h1, _⟩ := id hJ
  rw [hw] at h1
  cases h1
  obtain ⟨n', hn'⟩ := ((knows_eq hm hJ (h.all x hx) (kn_occ hn).1).1 a).mp ⟨n, hn⟩
  exact hd x hx s js e a n' hn'
abbrev sChk : Stmt := topS 32
abbrev nChk : List Str := ["table", "machines", "joint", "run", "fault"]
theorem scChk : FnScope nChk ["table"] (defScope sChk) := ⟨rfl, rfl, rfl, by decide +kernel, rfl, by decide +kernel, by decide +kernel⟩
def spChk (C : Addr) : Sp := fun vs H Q E => ∃ x T, vs = [x] ∧ RTbl H x T ∧ Good T ∧ (Acc2 T → ∀ (H' : Hp) (q : Addr), Same H H' → H q = none → H' q = some (.tup [.str "fine"]) → Q (.ref q) H') ∧
  (¬ Acc2 T → ∀ (H' : Hp) (q : Addr) (t : Str) (xs : List V), Same H H' → H q = none → H' q = some (.tup (.str t :: xs)) → t ≠ "fine" → Q (.ref q) H') ∧ (Many T → ∀ H', Same H H' → E (.ref C) none H')
abbrev sUnr : Stmt := topS 33
abbrev nUnr : List Str := ["table", "machines", "joint", "run", "action", "other"]
theorem scUnr : FnScope nUnr ["table"] (defScope sUnr) := ⟨rfl, rfl, rfl, by decide +kernel, rfl, by decide +kernel, by decide +kernel⟩
def spUnr (C : Addr) : Sp := fun vs H Q E => ∃ x T, vs = [x] ∧ RTbl H x T ∧ Good T ∧ (Ready T → ∀ (H' : Hp), Same H H' → Q .non H') ∧
  (¬ Ready T → ∀ (H' : Hp) (q : Addr), Same H H' → H q = none → Q (.ref q) H') ∧ (Many T → ∀ H', Same H H' → E (.ref C) none H')
section
variable {P : Program} {w : World} {K : PySem.W.Frag} {mg : Str → Option Value} {base : Heap}
theorem ok_chk {f fM fJ fS fI C : Addr} {fd fdM fdJ fdS fdI : FuncData} {k : Nat} (F : Fun K "check" "check" sChk f fd)
    (GM : FnOk P w K mg base CX0 k fM fdM ["table"] spMsof) (kM : PySem.W.keepIn K (.ref fM) = true) (bM : Binds K fdM ["table"] []) (gM : mg "machines_of" = some (.ref fM))
    (GJ : FnOk P w K mg base (L2.CX P w) k fJ fdJ ["table"] (spJs C)) (kJ : PySem.W.keepIn K (.ref fJ) = true) (bJ : Binds K fdJ ["table"] []) (gJ : mg "joint_states" = some (.ref fJ))
    (GS : FnOk P w K mg base CX0 k fS fdS ["table", "machines", "joint", "run"] spStray) (kS : PySem.W.keepIn K (.ref fS) = true) (bS : Binds K fdS ["table", "machines", "joint", "run"] []) (gS : mg "stray_at" = some (.ref fS))
    (GI : FnOk P w K mg base CX0 k fI fdI ["table", "machines", "joint", "run"] spIdle) (kI : PySem.W.keepIn K (.ref fI) = true) (bI : Binds K fdI ["table", "machines", "joint", "run"] []) (gI : mg "idle_at" = some (.ref fI)) : FnOk P w K mg base (L2.CX P w) (k + 1) f fd ["table"] (spChk C) := by
  refine F.okX scChk (fun vs H Q E h => ?_) (fun cdv A outer s0 H vs Q E hr h => ?_)
  · obtain ⟨x, T, rfl, _⟩ := h
    rfl
  · obtain ⟨x, T, rfl, hT, hgood, q1, q2, eX⟩ := h
    have nd := scChk.nd
    refine ⟨_, pss_cons (ps_set (i := 1) nd rfl (.inl rfl) (pe_call GM hr (by rfl) gM kM bM .nil pass0 (pa_cons (pv 0) pa_nil)))
      (pss_cons (ps_for (passes_of rfl) rfl (pi_list (pe_call GJ hr (by rfl) gJ kJ bJ .nil (passes_call (takes_of rfl rfl rfl rfl) (fun _ _ _ _ h => h)) (pa_cons (pv 0) pa_nil))) (pg_tup rfl (pgs_cons (pg_name (i := 2) nd rfl (.inl rfl)) (pgs_cons (pg_name (i := 3) nd rfl (.inl rfl)) pgs_nil)))
        (pss_cons (ps_set (i := 4) nd rfl (.inl rfl) (pe_call GS hr (by rfl) gS kS bS .nil pass0 (pa_cons (pv 0) (pa_cons (pv 1) (pa_cons (pv 2) (pa_cons (pv 3) pa_nil))))))
        (pss_cons (ps_cut (ps_if (pt_cmp (pc_isN (pv 4))) (pss_one (ps_set (i := 4) nd rfl (.inl rfl) (pe_call GI hr (by rfl) gI kI bI .nil pass0 (pa_cons (pv 0) (pa_cons (pv 1) (pa_cons (pv 2) (pa_cons (pv 3) pa_nil))))))) pss_nil))
        (pss_one (ps_if (pt_cmp (pc_notN (pv 4))) (pss_one (ps_ret (pv 4))) pss_nil)))))
      (pss_one (ps_ret (pe_tup (pa_cons pe_str pa_nil))))), ?_⟩
    refine ⟨_, rfl, _, T, rfl, hT, hgood, fun H1 dm ms s1 ndm hms hm => ?_⟩
    refine ⟨_, rfl, _, T, rfl, RTbl.mono _ _ _ _ s1 hT, hgood, fun H2 lj ms' jr s2 nlj hjr hm' hjs => ?_, fun hmany H' s => eX hmany H' (s1.trans s)⟩
    have := hm'.uniq hm
    subst this
    obtain ⟨lj', jvs, e, hlj, hjv⟩ := id hjr
    cases e
    have s02 := s1.trans s2
    have hms2 := RMs.mono _ _ _ _ s2 hms
    have hT2 := RTbl.mono _ _ _ _ s02 hT
    refine ⟨lj, rfl, ⟨_, SqL.of hlj⟩, for_it (walk_list (xs := jvs)) (fun i σ H7 => ∃ y2 y3 y4, σ = [some x, some (.ref dm), y2, y3, y4] ∧ Same H2 H7 ∧ ∀ x ∈ jr.take i, ∀ s js, x.1 = s :: js → ¬ Stray T x.2 s ∧ ¬ Idle T x.2 s)
      ⟨none, none, none, rfl, fun _ _ h => h, by simp⟩ (fun i σ H7 _ ⟨_, _, _, _, sm, _⟩ => SqL.of (sm _ _ hlj)) ?_ ?_⟩
    · rintro i yv σ H7 H8 hi ⟨y2, y3, y4, rfl, sm, hdone⟩ ⟨rfl, hyi⟩
      obtain ⟨⟨l, r⟩, hx, t, pj, pr, rfl, ht, hpj, hpr⟩ := pget hjv hyi
      have hxm := List.mem_of_getElem? hx
      have hRJ := hjs.all _ hxm
      obtain ⟨s, js, el, _, _⟩ := id hRJ
      have el : l = s :: js := el
      subst el
      have hRJ : RJ T ms' r (s :: js) := hRJ
      have hrl : r.length ≤ 3000 := hjs.runs _ hxm
      have s07 := s02.trans sm
      have hpj8 : RTup RNat H8 pj (s :: js) := RTup.mono RNat.mono _ _ _ _ sm hpj
      have hpr8 : RRun H8 pr r := RRun.mono _ _ _ _ sm hpr
      have hT8 := RTbl.mono _ _ _ _ sm hT2
      have hms8 := RMs.mono _ _ _ _ sm hms2
      have hw : T.walk r = some s := (JR.runLen hRJ).2
      -- what stands behind the second test
      have behind : ∀ (fv : V) (H9 : Hp), Same H8 H9 → ((fv = .non ∧ ¬ Stray T r s ∧ ¬ Idle T r s) ∨ (∃ (q : Addr) (t : Str) (xs : List V), fv = .ref q ∧ H8 q = none ∧ H9 q = some (.tup (.str t :: xs)) ∧ t ≠ "fine" ∧ (Stray T r s ∨ Idle T r s))) →
          ∃ fv : V, ((fv = .non ∧ ¬ Stray T r s ∧ ¬ Idle T r s) ∨ (∃ (q : Addr) (t : Str) (xs : List V), fv = .ref q ∧ H8 q = none ∧ H9 q = some (.tup (.str t :: xs)) ∧ t ≠ "fine" ∧ (Stray T r s ∨ Idle T r s))) := fun fv _ _ h => ⟨fv, h⟩
      refine ⟨t, _, rfl, SqT.of (sm _ _ ht), rfl, _, _, rfl, _, _, rfl, rfl, ?_⟩
      have mid : ∀ (fv : V) (H9 : Hp), Same H8 H9 → (fv = .non → ¬ Stray T r s) → (fv ≠ .non → ∃ (q : Addr) (t : Str) (xs : List V), fv = .ref q ∧ H8 q = none ∧ H9 q = some (.tup (.str t :: xs)) ∧ t ≠ "fine" ∧ (Stray T r s ∨ Idle T r s)) → True := fun _ _ _ _ _ => trivial
      refine ⟨_, rfl, _, rfl, _, rfl, _, rfl, _, _, _, _, T, ms', s, js, r, rfl, hT8, hgood.ok, hgood.len, hms8, hm', hpj8, hRJ, hpr8, hrl, fun hst H9 q xs s9 nq hq => ?_, fun hst H9 s9 => ?_⟩
      · refine ⟨fun σ' H' => σ' = [some x, some (.ref dm), some pj, some pr, some (.ref q)] ∧ H' = H9, ⟨_, rfl, _, rfl, ite2 (fun e => ?_) (fun e => ⟨rfl, rfl⟩)⟩, ?_⟩
        · exact absurd (of_decide_eq_true e) (fun z => nomatch z)
        · rintro σ' H' ⟨rfl, rfl⟩
          refine ⟨_, rfl, _, rfl, iteT ?_⟩
          exact ⟨_, rfl, q2 (fun ha => (ha r s hw).1 hst) _ q "stray" xs (s07.trans s9) (s07.free nq) hq (by decide)⟩
      · refine ⟨fun σ' H' => ∃ fv : V, σ' = [some x, some (.ref dm), some pj, some pr, some fv] ∧ Same H8 H' ∧ ((fv = .non ∧ ¬ Idle T r s) ∨ (∃ (q : Addr) (xs : List V), fv = .ref q ∧ H8 q = none ∧ H' q = some (.tup (.str "idle" :: xs)) ∧ Idle T r s)), ⟨_, rfl, _, rfl, iteT ?_⟩, ?_⟩
        · refine ⟨_, rfl, _, rfl, _, rfl, _, rfl, _, _, _, _, T, ms', s, js, r, rfl, RTbl.mono _ _ _ _ s9 hT8, hgood.ok, hgood.len, hgood.rowlen, RMs.mono _ _ _ _ s9 hms8, hm', RTup.mono RNat.mono _ _ _ _ s9 hpj8, hRJ, RRun.mono _ _ _ _ s9 hpr8, hrl, fun hI H10 q xs s10 nq hq => ?_, fun hI H10 s10 => ?_⟩
          · exact ⟨_, rfl, s9.trans s10, .inr ⟨q, xs, rfl, s9.free nq, hq, hI⟩⟩
          · exact ⟨_, rfl, s9.trans s10, .inl ⟨rfl, hI⟩⟩
        · rintro σ' H' ⟨fv, rfl, s10, ⟨rfl, hI⟩ | ⟨q, xs, rfl, nq, hq, hI⟩⟩
          · refine ⟨_, rfl, _, rfl, iteF ⟨_, _, _, rfl, sm.trans s10, fun z hz s' js' ez => ?_⟩⟩
            rw [take_snoc hx] at hz
            rcases List.mem_append.mp hz with hz | hz
            · exact hdone z hz s' js' ez
            · have : z = (s :: js, r) := by simpa using hz
              subst this
              cases (show s :: js = s' :: js' from ez)
              exact ⟨hst, hI⟩
          · refine ⟨_, rfl, _, rfl, iteT ?_⟩
            exact ⟨_, rfl, q2 (fun ha => (ha r s hw).2 hI) _ q "idle" xs (s07.trans s10) (s07.free nq) hq (by decide)⟩
    · rintro σ H7 ⟨y2, y3, y4, rfl, sm, hdone⟩
      have et : jr.take jvs.length = jr := by rw [plen hjv]; exact List.take_length
      rw [et] at hdone
      refine ⟨Nat.le_of_ble_eq_true rfl, fun p np => ?_⟩
      have sF := s02.trans sm
      exact q1 (acc_of hm' hjs hdone) _ p (sF.trans (same_upd np)) (sF.free np) upd_same
theorem ok_unr {f fM fJ fS fB fW fA fV C : Addr} {fd fdM fdJ fdS fdB fdW fdA fdV : FuncData} {k : Nat} (F : Fun K "unready" "unready" sUnr f fd)
    (GM : FnOk P w K mg base CX0 k fM fdM ["table"] spMsof) (kM : PySem.W.keepIn K (.ref fM) = true) (bM : Binds K fdM ["table"] []) (gM : mg "machines_of" = some (.ref fM))
    (GJ : FnOk P w K mg base (L2.CX P w) k fJ fdJ ["table"] (spJs C)) (kJ : PySem.W.keepIn K (.ref fJ) = true) (bJ : Binds K fdJ ["table"] []) (gJ : mg "joint_states" = some (.ref fJ))
    (GS : FnOk P w K mg base CX0 k fS fdS ["machines", "states"] spSends) (kS : PySem.W.keepIn K (.ref fS) = true) (bS : Binds K fdS ["machines", "states"] []) (gS : mg "sends_at" = some (.ref fS))
    (GB : FnOk P w K mg base CX0 k fB fdB ["machines", "joint"] spSbp) (kB : PySem.W.keepIn K (.ref fB) = true) (bB : Binds K fdB ["machines", "joint"] []) (gB : mg "states_by_party" = some (.ref fB))
    (GW : FnOk P w K mg base CX0 k fW fdW ["table", "actions"] spWalk) (kW : PySem.W.keepIn K (.ref fW) = true) (bW : Binds K fdW ["table", "actions"] []) (gW : mg "walk" = some (.ref fW))
    (GA : FnOk P w K mg base CX0 k fA fdA ["table", "party", "sight", "wanted"] spSeen) (kA : PySem.W.keepIn K (.ref fA) = true) (bA : Binds K fdA ["table", "party", "sight", "wanted"] []) (gA : mg "seen_alike" = some (.ref fA))
    (GV : FnOk P w K mg base CX0 k fV fdV ["actions", "party"] spView) (kV' : PySem.W.keepIn K (.ref fV) = true) (bV : Binds K fdV ["actions", "party"] []) (gV : mg "view" = some (.ref fV)) : FnOk P w K mg base (L2.CX P w) (k + 1) f fd ["table"] (spUnr C) := by
  refine F.okX scUnr (fun vs H Q E h => ?_) (fun cdv A outer s0 H vs Q E hr h => ?_)
  · obtain ⟨x, T, rfl, _⟩ := h
    rfl
  · obtain ⟨x, T, rfl, hT, hgood, q1, q2, eX⟩ := h
    have nd := scUnr.nd
    refine ⟨_, pss_cons (ps_set (i := 1) nd rfl (.inl rfl) (pe_call GM hr (by rfl) gM kM bM .nil pass0 (pa_cons (pv 0) pa_nil)))
      (pss_cons (ps_for (passes_of rfl) rfl (pi_list (pe_call GJ hr (by rfl) gJ kJ bJ .nil (passes_call (takes_of rfl rfl rfl rfl) (fun _ _ _ _ h => h)) (pa_cons (pv 0) pa_nil))) (pg_tup rfl (pgs_cons (pg_name (i := 2) nd rfl (.inl rfl)) (pgs_cons (pg_name (i := 3) nd rfl (.inl rfl)) pgs_nil)))
        (pss_one (ps_for (passes_of rfl) rfl (pi_list (pe_call GS hr (by rfl) gS kS bS .nil pass0 (pa_cons (pv 1) (pa_cons (pe_call GB hr (by rfl) gB kB bB .nil pass0 (pa_cons (pv 1) (pa_cons (pv 2) pa_nil))) pa_nil)))) (pg_name (i := 4) nd rfl (.inl rfl))
          (pss_one (ps_if (pt_cmp (pc_isN (pe_call GW hr (by rfl) gW kW bW .nil pass0 (pa_cons (pv 0) (pa_cons (pe_op op_cat (pv 3) (pe_lst (pa_cons (pv 4) pa_nil))) pa_nil)))))
            (pss_cons (ps_set (i := 5) nd rfl (.inl rfl) (pe_call GA hr (by rfl) gA kA bA .nil pass0 (pa_cons (pv 0) (pa_cons (pe_ix ix_tup (pv 4) pe_int (fun _ _ => rfl)) (pa_cons (pe_call GV hr (by rfl) gV kV' bV .nil pass0 (pa_cons (pv 3) (pa_cons (pe_ix ix_tup (pv 4) pe_int (fun _ _ => rfl)) pa_nil))) (pa_cons (pv 4) pa_nil))))))
            (pss_one (ps_ret (pe_tup (pa_cons pe_str (pa_cons (pv 3) (pa_cons (pv 4) (pa_cons (pv 5) pa_nil)))))))) pss_nil)))))
      (pss_one (ps_ret pe_non))), ?_⟩
    have hok := hgood.ok
    refine ⟨_, rfl, _, T, rfl, hT, hgood, fun H1 dm ms s1 ndm hms hm => ?_⟩
    refine ⟨_, rfl, _, T, rfl, RTbl.mono _ _ _ _ s1 hT, hgood, fun H2 lj ms' jr s2 nlj hjr hm' hjs => ?_, fun hmany H' s => eX hmany H' (s1.trans s)⟩
    have := hm'.uniq hm
    subst this
    obtain ⟨lj', jvs, e, hlj, hjv⟩ := id hjr
    cases e
    have s02 := s1.trans s2
    have hms2 := RMs.mono _ _ _ _ s2 hms
    have hT2 := RTbl.mono _ _ _ _ s02 hT
    refine ⟨lj, rfl, ⟨_, SqL.of hlj⟩, for_it (walk_list (xs := jvs)) (fun i σ H7 => ∃ y2 y3 y4, σ = [some x, some (.ref dm), y2, y3, y4, none] ∧ Same H2 H7 ∧ ∀ x ∈ jr.take i, ∀ s js, x.1 = s :: js → ∀ a n, Kn T a.1 (vw x.2 a.1 ++ [a]) n → T.next s a ≠ none)
      ⟨none, none, none, rfl, fun _ _ h => h, by simp⟩ (fun i σ H7 _ ⟨_, _, _, _, sm, _⟩ => SqL.of (sm _ _ hlj)) ?_ ?_⟩
    · rintro i yv σ H7 H8 hi ⟨y2, y3, y4, rfl, sm, hdone⟩ ⟨rfl, hyi⟩
      obtain ⟨⟨l, r⟩, hx, t, pj, pr, rfl, ht, hpj, hpr⟩ := pget hjv hyi
      have hxm := List.mem_of_getElem? hx
      have hRJ := hjs.all _ hxm
      obtain ⟨s, js, el, _, _⟩ := id hRJ
      have el : l = s :: js := el
      subst el
      have hRJ : RJ T ms' r (s :: js) := hRJ
      have hrl : r.length ≤ 3000 := hjs.runs _ hxm
      have s07 := s02.trans sm
      have hpj8 : RTup RNat H8 pj (s :: js) := RTup.mono RNat.mono _ _ _ _ sm hpj
      have hpr8 : RRun H8 pr r := RRun.mono _ _ _ _ sm hpr
      have hT8 := RTbl.mono _ _ _ _ sm hT2
      have hms8 := RMs.mono _ _ _ _ sm hms2
      obtain ⟨hjl, hw⟩ := JR.runLen hRJ
      have hbnd := JR.bnd hm' hRJ
      refine ⟨t, _, rfl, SqT.of (sm _ _ ht), rfl, _, _, rfl, _, _, rfl, rfl, ?_⟩
      refine ⟨_, rfl, _, rfl, _, rfl, _, _, ms', s, js, rfl, hms8, hm'.nd, hm'.len, hpj8, hjl, fun H9 ds s9 nds hds => ?_⟩
      refine ⟨_, ds, ms', js, rfl, RMs.mono _ _ _ _ s9 hms8, hm'.nd, hm'.len, hds, hjl, hbnd, fun H10 la acts s10 nla hacts hmem => ?_⟩
      obtain ⟨la', avs, ea, hla, hav⟩ := id hacts
      cases ea
      have s8a := s9.trans s10
      refine ⟨la, rfl, ⟨_, SqL.of hla⟩, for_it (walk_list (xs := avs)) (fun n σ H11 => ∃ y4, σ = [some x, some (.ref dm), some pj, some pr, y4, none] ∧ Same H10 H11 ∧ ∀ a ∈ acts.take n, T.next s a ≠ none)
        ⟨_, rfl, fun _ _ h => h, by simp⟩ (fun n σ H11 _ ⟨_, _, s11, _⟩ => SqL.of (s11 _ _ hla)) ?_ ?_⟩
      · rintro n yv σ H11 H12 hn ⟨y4, rfl, s11, hd2⟩ ⟨rfl, hyn⟩
        obtain ⟨a, ha, pa, rfl, hpa⟩ := pget hav hyn
        have ham : a ∈ acts := List.mem_of_getElem? ha
        have s8b := s8a.trans s11
        have hra : RAct H12 (.ref pa) a := ⟨pa, rfl, s11 _ _ hpa⟩
        obtain ⟨n1, hn1⟩ := (sends_iff hm' hRJ a).mp ((hmem a).mp ham)
        obtain ⟨prr, rvs, rfl, hprr, hrv⟩ := RRun.mono _ _ _ _ s8b hpr8
        have hrvl : rvs.length = r.length := plen hrv
        refine ⟨_, rfl, _, rfl, _, rfl, Nat.le_of_ble_eq_true rfl, fun l1 nl1 => ?_⟩
        have sL1 := same_upd (o := .lst [.ref pa]) nl1
        refine ⟨prr, l1, rvs, [.ref pa], rfl, rfl, sL1 _ _ hprr, upd_same, by rw [sizeLine_eq]; simp only [List.length_singleton]; omega, fun l2 nl2 => ?_⟩
        have sL2 := sL1.trans (same_upd (o := .lst (rvs ++ [.ref pa])) nl2)
        have s0F := s07.trans (s8b.trans sL2)
        refine ⟨_, _, T, r ++ [a], rfl, RTbl.mono _ _ _ _ (s8b.trans sL2) hT8, hok.inb, hok.pos, ⟨l2, _, rfl, upd_same, psnoc (pmono hrv fun _ _ z => RAct.mono _ _ _ _ sL2 z) (RAct.mono _ _ _ _ sL2 hra)⟩, ?_⟩
        have ew : T.walk (r ++ [a]) = T.next s a := by rw [walk_snoc, hw]; rfl
        rw [ew]
        refine ⟨_, rfl, ite2 (fun e2 => ?_) (fun e2 => ?_)⟩
        · have hnone : T.next s a = none := by
            cases hg : T.next s a with
            | none => rfl
            | some g => rw [hg] at e2; simp [ov] at e2
          have hnr : ¬ Ready T := fun h => h r s hw a n1 hn1 hnone
          have vl : (vw r a.1).length ≤ 3000 := Nat.le_trans (List.length_filter_le _ _) hrl
          refine ⟨_, rfl, _, rfl, pa, _, _, .str a.1, rfl, rfl, SqT.of (sL2 _ _ (s11 _ _ hpa)), atI_nat (j := 0) rfl, _, rfl, _, rfl, pa, _, _, .str a.1, rfl, rfl, SqT.of (sL2 _ _ (s11 _ _ hpa)), atI_nat (j := 0) rfl, .ref prr, r, a.1, rfl, ⟨prr, rvs, rfl, sL2 _ _ hprr, pmono hrv fun _ _ z => RAct.mono _ _ _ _ sL2 z⟩, by omega, fun H13 pv1 s13 npv1 hpv1 => ?_⟩
          refine ⟨_, rfl, _, a.1, .ref pv1, .ref pa, T, vw r a.1, some a, rfl, RTbl.mono _ _ _ _ ((s8b.trans sL2).trans s13) hT8, hok, hgood.len, hpv1, vl, RAct.mono _ _ _ _ (sL2.trans s13) hra, fun H14 v1 s14 => ?_⟩
          refine ⟨_, rfl, _, rfl, _, rfl, Nat.le_of_ble_eq_true rfl, fun qt nqt => ?_⟩
          have sF := s0F.trans (s13.trans s14)
          exact q2 hnr _ qt (sF.trans (same_upd nqt)) (sF.free nqt)
        · refine ⟨_, rfl, s11.trans sL2, fun b hb => ?_⟩
          rw [take_snoc ha] at hb
          rcases List.mem_append.mp hb with hb | hb
          · exact hd2 b hb
          · have : b = a := by simpa using hb
            subst this
            intro z
            rw [z] at e2
            exact e2 rfl
      · rintro σ H11 ⟨y4, rfl, s11, hd2⟩
        have et : acts.take avs.length = acts := by rw [plen hav]; exact List.take_length
        rw [et] at hd2
        refine ⟨_, _, _, rfl, sm.trans (s8a.trans s11), fun z hz s' js' ez a n hn => ?_⟩
        rw [take_snoc hx] at hz
        rcases List.mem_append.mp hz with hz | hz
        · exact hdone z hz s' js' ez a n hn
        · have : z = (s :: js, r) := by simpa using hz
          subst this
          cases (show s :: js = s' :: js' from ez)
          exact hd2 a ((hmem a).mpr ((sends_iff hm' hRJ a).mpr ⟨n, hn⟩))
    · rintro σ H7 ⟨y2, y3, y4, rfl, sm, hdone⟩
      have et : jr.take jvs.length = jr := by rw [plen hjv]; exact List.take_length
      rw [et] at hdone
      exact q1 (ready_of hm' hjs hdone) H7 (s02.trans sm)
end
end PL
namespace PL
open PySem PySem.Spec PyProof.Rows L2
/-- one table beside another -/
structure Bes (A B T : Tbl) (R : Nat → Nat → Nat → Prop) : Prop where
  first : R 0 0 0
  lt : ∀ b s t, R b s t → s < A.rows.length ∧ t < B.rows.length ∧ b < T.rows.length
  fn : ∀ b s t s' t', R b s t → R b s' t' → s = s' ∧ t = t'
  inj : ∀ b b' s t, R b s t → R b' s t → b = b'
  ends : ∀ b s t, R b s t → T.ends.getD b false = (A.ends.getD s false && B.ends.getD t false)
  none : ∀ b s t a, R b s t → A.next s a = none → B.next t a = none → T.next b a = none
  one : ∀ b s t a g, R b s t → A.next s a = some g → ∃ c, T.next b a = some c ∧ R c g t
  two : ∀ b s t a g, R b s t → B.next t a = some g → ∃ c, T.next b a = some c ∧ R c s g
  all : ∀ b, b < T.rows.length → ∃ s t, R b s t
def Apart (A B : Tbl) : Prop := ∀ s t a, A.next s a = none ∨ B.next t a = none
def pairRow (n s t : Nat) (r1 r2 : List (Act × Nat)) : List (Act × List Nat) := r1.map (fun p => (p.1, [p.2 * n + t])) ++ r2.map fun p => (p.1, [s * n + p.2])
theorem ix_inj {n s t s' t' : Nat} (h : t < n) (h' : t' < n) (e : s * n + t = s' * n + t') : s = s' ∧ t = t' := by
  have e1 : s = s' := by
    rcases Nat.lt_trichotomy s s' with q | q | q
    · have := Nat.mul_le_mul_right n (show s + 1 ≤ s' from q)
      rw [Nat.add_mul, Nat.one_mul] at this
      omega
    · exact q
    · have := Nat.mul_le_mul_right n (show s' + 1 ≤ s from q)
      rw [Nat.add_mul, Nat.one_mul] at this
      omega
  rw [e1] at e
  exact ⟨e1, by omega⟩
theorem ix_lt {n m s t : Nat} (hs : s < m) (ht : t < n) : s * n + t < m * n := by
  have := Nat.mul_le_mul_right n (show s + 1 ≤ m from hs)
  rw [Nat.add_mul, Nat.one_mul] at this
  omega
/-- what the moves of the pairs are -/
structure BMv (A B : Tbl) (mv : Mv) (es : List Bool) : Prop where
  len : mv.length = A.rows.length * B.rows.length
  elen : es.length = A.rows.length * B.rows.length
  cell : ∀ s t, s < A.rows.length → t < B.rows.length → mv.getD (s * B.rows.length + t) [] = pairRow B.rows.length s t (A.rows.getD s []) (B.rows.getD t []) ∧ es.getD (s * B.rows.length + t) false = (A.ends.getD s false && B.ends.getD t false)
def PP (A B : Tbl) (l : List Nat) : Prop := ∃ s t, s < A.rows.length ∧ t < B.rows.length ∧ l = [s * B.rows.length + t]
/-- the goal of an action out of a pair -/
theorem bmv_goal {A B : Tbl} (ha : A.OK) (hb : B.OK) (ap : Apart A B) {mv : Mv} {es : List Bool} (h : BMv A B mv es) {s t : Nat} (hs : s < A.rows.length) (ht : t < B.rows.length) (a : Act) :
    (∀ g, A.next s a = some g → Has mv [s * B.rows.length + t] a ∧ ∀ n, Goal mv [s * B.rows.length + t] a n ↔ n = g * B.rows.length + t) ∧
    (∀ g, B.next t a = some g → Has mv [s * B.rows.length + t] a ∧ ∀ n, Goal mv [s * B.rows.length + t] a n ↔ n = s * B.rows.length + g) ∧
    (A.next s a = none → B.next t a = none → ¬ Has mv [s * B.rows.length + t] a) := by
  have e := (h.cell s t hs ht).1
  have r1 : A.rows[s]? = some (A.rows.getD s []) := some_getD hs
  have r2 : B.rows[t]? = some (B.rows.getD t []) := some_getD ht
  have mem : ∀ x, x ∈ mvAt mv [s * B.rows.length + t] ↔ (∃ g, A.next s x.1 = some g ∧ x.2 = [g * B.rows.length + t]) ∨ ∃ g, B.next t x.1 = some g ∧ x.2 = [s * B.rows.length + g] := by
    intro x
    rw [mvAt_one, e]
    unfold pairRow
    rw [List.mem_append, List.mem_map, List.mem_map]
    constructor
    · rintro (⟨p, hp, rfl⟩ | ⟨p, hp, rfl⟩)
      · exact .inl ⟨p.2, ha.next_of r1 hp, rfl⟩
      · exact .inr ⟨p.2, hb.next_of r2 hp, rfl⟩
    · rintro (⟨g, h1, h2⟩ | ⟨g, h1, h2⟩)
      · obtain ⟨row, q1, q2⟩ := Tbl.OK.of_next h1
        rw [r1] at q1
        cases q1
        exact .inl ⟨_, q2, by rw [← h2]⟩
      · obtain ⟨row, q1, q2⟩ := Tbl.OK.of_next h1
        rw [r2] at q1
        cases q1
        exact .inr ⟨_, q2, by rw [← h2]⟩
  refine ⟨fun g hg => ?_, fun g hg => ?_, fun h1 h2 => ?_⟩
  · have nb : B.next t a = none := (ap s t a).resolve_left (by rw [hg]; exact fun z => nomatch z)
    refine ⟨⟨(a, [g * B.rows.length + t]), (mem _).mpr (.inl ⟨g, hg, rfl⟩), rfl⟩, fun n => ⟨?_, fun e => ⟨(a, [g * B.rows.length + t]), (mem _).mpr (.inl ⟨g, hg, rfl⟩), rfl, by simp [e]⟩⟩⟩
    rintro ⟨x, hx, rfl, hn⟩
    rcases (mem x).mp hx with ⟨g', h1, h2⟩ | ⟨g', h1, h2⟩
    · rw [hg] at h1
      cases h1
      rw [h2] at hn
      simpa using hn
    · rw [nb] at h1
      cases h1
  · have na : A.next s a = none := (ap s t a).resolve_right (by rw [hg]; exact fun z => nomatch z)
    refine ⟨⟨(a, [s * B.rows.length + g]), (mem _).mpr (.inr ⟨g, hg, rfl⟩), rfl⟩, fun n => ⟨?_, fun e => ⟨(a, [s * B.rows.length + g]), (mem _).mpr (.inr ⟨g, hg, rfl⟩), rfl, by simp [e]⟩⟩⟩
    rintro ⟨x, hx, rfl, hn⟩
    rcases (mem x).mp hx with ⟨g', h1, h2⟩ | ⟨g', h1, h2⟩
    · rw [na] at h1
      cases h1
    · rw [hg] at h1
      cases h1
      rw [h2] at hn
      simpa using hn
  · rintro ⟨x, hx, rfl⟩
    rcases (mem x).mp hx with ⟨g', q1, _⟩ | ⟨g', q1, _⟩
    · rw [h1] at q1
      cases q1
    · rw [h2] at q1
      cases q1
theorem bes_in {A B : Tbl} (ha : A.OK) (hb : B.OK) (ap : Apart A B) (h60 : A.rows.length * B.rows.length ≤ 60) (hra : ∀ r ∈ A.rows, r.length ≤ 50) (hrb : ∀ r ∈ B.rows, r.length ≤ 50) {mv : Mv} {es : List Bool} (h : BMv A B mv es) (hg60 : ∀ r ∈ mv, ∀ x ∈ r, ∀ g ∈ x.2, g < 60) :
    SubIn (PP A B) [0] mv es 300 := by
  refine ⟨⟨⟨0, 0, ha.pos, hb.pos, by simp⟩, by simp⟩, ?_, ?_, ?_, ?_, ?_, by omega, by rw [h.elen]; omega⟩
  · rintro l a m ⟨s, t, hs, ht, rfl⟩ al hh am hm
    obtain ⟨g1, g2, g3⟩ := bmv_goal ha hb ap h hs ht a
    cases e1 : A.next s a with
    | some g =>
      refine ⟨g, t, ha.inb.next e1, ht, asc_ext am (by simp) fun n => ?_⟩
      rw [hm, (g1 g e1).2, List.mem_singleton]
    | none =>
      cases e2 : B.next t a with
      | some g =>
        refine ⟨s, g, hs, hb.inb.next e2, asc_ext am (by simp) fun n => ?_⟩
        rw [hm, (g2 g e2).2, List.mem_singleton]
      | none => exact absurd hh (g3 e1 e2)
  · rintro l ⟨s, t, hs, ht, rfl⟩ n hn
    have : n = s * B.rows.length + t := by simpa using hn
    rw [this, h.len, h.elen]
    exact ⟨ix_lt hs ht, ix_lt hs ht⟩
  · intro l x hx g hg
    unfold mvAt at hx
    obtain ⟨r, hr, hx⟩ := List.mem_flatten.mp hx
    obtain ⟨n, _, rfl⟩ := List.mem_map.mp hr
    by_cases hn : n < mv.length
    · rw [getD_some (List.getElem?_eq_getElem hn)] at hx
      exact hg60 _ (List.getElem_mem hn) x hx g hg
    · rw [List.getD_eq_getElem?_getD, List.getElem?_eq_none (by omega)] at hx
      cases hx
  · rintro l ⟨s, t, hs, ht, rfl⟩ _
    rw [mvAt_one, (h.cell s t hs ht).1]
    unfold pairRow
    rw [List.length_append, List.length_map, List.length_map, getD_some (List.getElem?_eq_getElem hs), getD_some (List.getElem?_eq_getElem ht)]
    have := hra _ (List.getElem_mem hs)
    have := hrb _ (List.getElem_mem ht)
    omega
  · intro L hn hL
    have := nodup_le (D := (List.range (A.rows.length * B.rows.length)).map fun c => [c]) hn fun l hl => by
      obtain ⟨⟨s, t, hs, ht, rfl⟩, _⟩ := hL l hl
      exact List.mem_map.mpr ⟨_, List.mem_range.mpr (ix_lt hs ht), rfl⟩
    rw [List.length_map, List.length_range] at this
    omega
theorem bes_of {A B T : Tbl} (ha : A.OK) (hb : B.OK) (ap : Apart A B) {mv : Mv} {es : List Bool} (h : BMv A B mv es) {os : List (List Nat)} (hs : SubOk [0] mv es T os) (hos : ∀ l ∈ os, PP A B l ∧ Asc l) :
    Bes A B T (fun b s t => s < A.rows.length ∧ t < B.rows.length ∧ os[b]? = some [s * B.rows.length + t]) := by
  have go : ∀ (b s t : Nat) a n, os[b]? = some [s * B.rows.length + t] → Has mv [s * B.rows.length + t] a → (∀ m, Goal mv [s * B.rows.length + t] a m ↔ m = n) → ∃ c, T.next b a = some c ∧ os[c]? = some [n] := by
    intro b s t a n hb2 hh hg
    obtain ⟨row, r1, r2⟩ := hs.row b _ hb2
    obtain ⟨p, hp, ep⟩ := List.mem_map.mp ((r2.has a).mpr hh)
    obtain ⟨m, m1, m2, m3⟩ := r2.go p hp
    refine ⟨p.2, ?_, ?_⟩
    · unfold Tbl.next
      rw [getD_some r1, ← ep]
      exact look_of r2.nd hp
    · rw [m1]
      congr 1
      refine asc_ext m2 (by simp) fun x => ?_
      rw [m3, List.mem_singleton, show p.1 = a from ep, hg]
  refine ⟨⟨ha.pos, hb.pos, by rw [hs.first]; simp⟩, fun b s t r => ⟨r.1, r.2.1, by rw [hs.len]; exact (List.getElem?_eq_some_iff.mp r.2.2).1⟩, fun b s t s' t' r r' => ?_, fun b b' s t r r' => nd_ix hs.nd r.2.2 r'.2.2, fun b s t r => ?_, fun b s t a r h1 h2 => ?_, fun b s t a g r hg => ?_, fun b s t a g r hg => ?_, fun b hbl => ?_⟩
  · have e := r.2.2
    rw [r'.2.2] at e
    have e2 : s' * B.rows.length + t' = s * B.rows.length + t := by simpa using e
    obtain ⟨a1, a2⟩ := ix_inj r'.2.1 r.2.1 e2
    exact ⟨a1.symm, a2.symm⟩
  · rw [getD_some (hs.ends b _ r.2.2)]
    simp only [List.any_cons, List.any_nil, Bool.or_false]
    exact (h.cell s t r.1 r.2.1).2
  · obtain ⟨row, r1, r2⟩ := hs.row b _ r.2.2
    unfold Tbl.next
    rw [getD_some r1]
    cases e : look row a with
    | none => rfl
    | some g => exact absurd ((r2.has a).mp (List.mem_map.mpr ⟨_, look_mem e, rfl⟩)) ((bmv_goal ha hb ap h r.1 r.2.1 a).2.2 h1 h2)
  · obtain ⟨h1, h2⟩ := (bmv_goal ha hb ap h r.1 r.2.1 a).1 g hg
    obtain ⟨c, c1, c2⟩ := go b s t a _ r.2.2 h1 h2
    exact ⟨c, c1, ha.inb.next hg, r.2.1, c2⟩
  · obtain ⟨h1, h2⟩ := (bmv_goal ha hb ap h r.1 r.2.1 a).2.1 g hg
    obtain ⟨c, c1, c2⟩ := go b s t a _ r.2.2 h1 h2
    exact ⟨c, c1, r.1, hb.inb.next hg, c2⟩
  · rw [hs.len] at hbl
    obtain ⟨⟨s, t, q1, q2, q3⟩, _⟩ := hos _ (List.getElem_mem hbl)
    exact ⟨s, t, q1, q2, by rw [List.getElem?_eq_getElem hbl, q3]⟩
abbrev sBes : Stmt := topS 13
abbrev nBes : List Str := ["one", "other", "size", "moves", "ends", "first", "row", "second", "others", "pairs", "action", "goal"]
theorem scBes : FnScope nBes ["one", "other"] (defScope sBes) := ⟨rfl, rfl, rfl, by decide +kernel, rfl, by decide +kernel, by decide +kernel⟩
def spBes : Sp := fun vs H Q _ => ∃ x y A B, vs = [x, y] ∧ RTbl H x A ∧ RTbl H y B ∧ A.OK ∧ B.OK ∧ Apart A B ∧ A.rows.length * B.rows.length ≤ 60 ∧ A.rows.length ≤ 60 ∧ B.rows.length ≤ 60 ∧ (∀ r ∈ A.rows, r.length ≤ 50) ∧ (∀ r ∈ B.rows, r.length ≤ 50) ∧
  ∀ (H' : Hp) (q : Addr) (T : Tbl), Same H H' → H q = none → RTbl H' (.ref q) T → T.OK → T.rows.length ≤ A.rows.length * B.rows.length → (∀ r ∈ T.rows, r.length ≤ 100) → (∃ R, Bes A B T R) → Q (.ref q) H'
theorem getD_snoc {α : Type} {l : List α} {x d : α} {i : Nat} : (l ++ [x]).getD i d = if i = l.length then x else l.getD i d := by
  rw [List.getD_eq_getElem?_getD]
  by_cases h : i < l.length
  · rw [List.getElem?_append_left h, if_neg (by omega), List.getD_eq_getElem?_getD]
  · rw [List.getElem?_append_right (by omega)]
    by_cases e : i = l.length
    · rw [if_pos e, e, Nat.sub_self]
      rfl
    · rw [if_neg e, List.getD_eq_getElem?_getD, List.getElem?_eq_none (show [x].length ≤ i - l.length by rw [List.length_singleton]; omega), List.getElem?_eq_none (by omega)]
/-- how far the pairs are laid -/
structure BI (A B : Tbl) (i j : Nat) (mv : Mv) (es : List Bool) : Prop where
  len : mv.length = i * B.rows.length + j
  elen : es.length = i * B.rows.length + j
  cell : ∀ s t, t < B.rows.length → s < i ∨ (s = i ∧ t < j) → mv.getD (s * B.rows.length + t) [] = pairRow B.rows.length s t (A.rows.getD s []) (B.rows.getD t []) ∧ es.getD (s * B.rows.length + t) false = (A.ends.getD s false && B.ends.getD t false)
  bd : ∀ r ∈ mv, ∀ x ∈ r, ∀ g ∈ x.2, g < A.rows.length * B.rows.length
theorem BI.next {A B : Tbl} {i j : Nat} {mv : Mv} {es : List Bool} (h : BI A B i j mv es) (hi : i < A.rows.length) (hj : j < B.rows.length) (ha : A.OK) (hb : B.OK) :
    BI A B i (j + 1) (mv ++ [pairRow B.rows.length i j (A.rows.getD i []) (B.rows.getD j [])]) (es ++ [A.ends.getD i false && B.ends.getD j false]) := by
  refine ⟨by rw [List.length_append, h.len]; rfl, by rw [List.length_append, h.elen]; rfl, fun s t ht hc => ?_, fun r hr x hx g hg => ?_⟩
  · rw [getD_snoc, getD_snoc, h.len, h.elen]
    by_cases e : s * B.rows.length + t = i * B.rows.length + j
    · obtain ⟨e1, e2⟩ := ix_inj ht hj e
      subst e1 e2
      rw [if_pos rfl, if_pos rfl]
      exact ⟨rfl, rfl⟩
    · rw [if_neg e, if_neg e]
      refine h.cell s t ht ?_
      rcases hc with hc | ⟨e1, hc⟩
      · exact .inl hc
      · refine .inr ⟨e1, ?_⟩
        have : t ≠ j := fun z => e (by rw [e1, z])
        omega
  · rcases List.mem_append.mp hr with hr | hr
    · exact h.bd r hr x hx g hg
    · have : r = pairRow B.rows.length i j (A.rows.getD i []) (B.rows.getD j []) := by simpa using hr
      subst this
      rcases List.mem_append.mp hx with hx | hx
      · obtain ⟨p, hp, rfl⟩ := List.mem_map.mp hx
        have : g = p.2 * B.rows.length + j := by simpa using hg
        rw [this]
        rw [getD_some (List.getElem?_eq_getElem hi)] at hp
        exact ix_lt (ha.inb _ (List.getElem_mem hi) p hp) hj
      · obtain ⟨p, hp, rfl⟩ := List.mem_map.mp hx
        have : g = i * B.rows.length + p.2 := by simpa using hg
        rw [this]
        rw [getD_some (List.getElem?_eq_getElem hj)] at hp
        exact ix_lt hi (hb.inb _ (List.getElem_mem hj) p hp)
theorem BI.line {A B : Tbl} {i : Nat} {mv : Mv} {es : List Bool} (h : BI A B i B.rows.length mv es) : BI A B (i + 1) 0 mv es := by
  refine ⟨by rw [h.len, Nat.add_mul]; omega, by rw [h.elen, Nat.add_mul]; omega, fun s t ht hc => h.cell s t ht ?_, h.bd⟩
  rcases hc with hc | ⟨_, hc⟩
  · by_cases e : s = i
    · exact .inr ⟨e, ht⟩
    · exact .inl (by omega)
  · exact absurd hc (Nat.not_lt_zero t)
section
variable {P : Program} {w : World} {K : PySem.W.Frag} {mg : Str → Option Value} {base : Heap}
theorem ok_bes {f fS : Addr} {fd fdS : FuncData} {k : Nat} {t300 : Tok} (F : Fun K "beside" "beside" sBes f fd)
    (GS : FnOk P w K mg base CX0 k fS fdS ["start", "moves", "ends", "limit"] spSub) (kS : PySem.W.keepIn K (.ref fS) = true) (bS : Binds K fdS ["start", "moves", "ends", "limit"] []) (gS : mg "subset_table" = some (.ref fS))
    (mL : mg "len" = none) (mE : mg "enumerate" = none) (m3 : mg "MOST_STATES" = some (.int 300 t300)) : FnOk P w K mg base CX0 (k + 1) f fd ["one", "other"] spBes := by
  refine F.ok scBes (fun vs H Q E h => ?_) (fun cdv Ar outer s0 H vs Q E hr h => ?_)
  · obtain ⟨x, y, A, B, rfl, _⟩ := h
    rfl
  · obtain ⟨x, y, A, B, rfl, hA, hB, aok, bok, ap, h60, a60, b60, hra, hrb, q⟩ := h
    have hu := hu_of hr
    have nd := scBes.nd
    refine ⟨_, pss_cons (ps_set (i := 2) nd rfl (.inr rfl) (pe_callB call_len_seq (by rfl) mL (by decide +kernel) (pa_cons (pe_ix ix_tup (pv 1) pe_int (fun _ _ => rfl)) pa_nil)))
      (pss_cons (ps_if (pt_cmp (pc_gt (pe_op op_mulN (pe_callB call_len_seq (by rfl) mL (by decide +kernel) (pa_cons (pe_ix ix_tup (pv 0) pe_int (fun _ _ => rfl)) pa_nil)) (pv 2)) (pe_glob (v := .int 300) (by rfl) m3 ⟨_, rfl⟩))) (pss_one ps_never) pss_nil)
      (pss_cons (ps_set (i := 3) nd rfl (.inl rfl) (pe_lst pa_nil))
      (pss_cons (ps_set (i := 4) nd rfl (.inl rfl) (pe_lst pa_nil))
      (pss_cons (ps_for PassesOwn.never rfl (pi_enT (by rfl) mE (pa_cons (pe_ix ix_tup (pv 0) pe_int (fun _ _ => rfl)) pa_nil)) (pg_tup rfl (pgs_cons (pg_name (i := 5) nd rfl (.inr rfl)) (pgs_cons (pg_name (i := 6) nd rfl (.inl rfl)) pgs_nil)))
        (pss_one (ps_for PassesOwn.never rfl (pi_enT (by rfl) mE (pa_cons (pe_ix ix_tup (pv 1) pe_int (fun _ _ => rfl)) pa_nil)) (pg_tup rfl (pgs_cons (pg_name (i := 7) nd rfl (.inr rfl)) (pgs_cons (pg_name (i := 8) nd rfl (.inl rfl)) pgs_nil)))
          (pss_cons (ps_setLc (i := 9) (own := [("action", 10), ("goal", 11)]) (g := g2 K 10 11) (by rfl) nd rfl rfl (sw_true rfl rfl rfl (by decide +kernel)) (pi_tup (pv 6)) (blkOk_by (N := nBes) (sc := defScope sBes) (by decide +kernel)) (fun _ _ _ _ _ => pg_tupK rfl rfl (pgs_cons (pg_name (i := 10) nd rfl (Or.inl rfl)) (pgs_cons (pg_name (i := 11) nd rfl (Or.inl rfl)) pgs_nil))) (fun _ _ _ _ _ => pts_nil)
            (fun _ _ _ _ _ => pe_tup (pa_cons (pv 10) (pa_cons (pe_tup (pa_cons (pe_add (pe_op op_mulN (pv 11) (pv 2)) (pv 7)) pa_nil)) pa_nil))))
          (pss_cons (ps_expr (pe_bm PySem.F.plainAttrs_list PySem.F.slot_list_extend PySem.F.type_list_extend mt_extend (pv 9) (pa_cons
            (pe_lc (own := [("action", 10), ("goal", 11)]) (g := g2 K 10 11) (by rfl) nd (pi_tup (pv 8)) (blkOk_by (N := nBes) (sc := defScope sBes) (by decide +kernel)) (fun _ _ _ _ _ => pg_tupK rfl rfl (pgs_cons (pg_name (i := 10) nd rfl (Or.inl rfl)) (pgs_cons (pg_name (i := 11) nd rfl (Or.inl rfl)) pgs_nil))) (fun _ _ _ _ _ => pts_nil)
              (fun _ _ _ _ _ => pe_tup (pa_cons (pv 10) (pa_cons (pe_tup (pa_cons (pe_add (pe_op op_mulN (pv 5) (pv 2)) (pv 11)) pa_nil)) pa_nil)))) pa_nil)))
          (pss_cons (ps_expr (pe_bm PySem.F.plainAttrs_list PySem.F.slot_list_append PySem.F.type_list_append mt_append (pv 3) (pa_cons (pv 9) pa_nil)))
          (pss_one (ps_expr (pe_bm PySem.F.plainAttrs_list PySem.F.slot_list_append PySem.F.type_list_append mt_append (pv 4) (pa_cons (pe_and (pe_ix ix_tup (pe_ix ix_tup (pv 0) pe_int (fun _ _ => rfl)) (pv 5) (fun _ _ => rfl)) (pe_one (pe_ix ix_tup (pe_ix ix_tup (pv 1) pe_int (fun _ _ => rfl)) (pv 7) (fun _ _ => rfl)))) pa_nil))))))))))
      (pss_one (ps_ret (pe_call GS hr (by rfl) gS kS bS .nil pass0 (pa_cons (pe_tup (pa_cons pe_int pa_nil)) (pa_cons (pv 3) (pa_cons (pv 4) (pa_cons (pe_glob (v := .int 300) (by rfl) m3 ⟨_, rfl⟩) pa_nil))))))))))), ?_⟩
    obtain ⟨pa, var, vae, rfl, hpa, ⟨par, avs, rfl, hpar, pars⟩, ⟨pae, aves, rfl, hpae, paes⟩⟩ := id hA
    obtain ⟨pb, vbr, vbe, rfl, hpb, ⟨pbr, bvs, rfl, hpbr, pbrs⟩, ⟨pbe, bves, rfl, hpbe, pbes⟩⟩ := id hB
    have ea : aves = A.ends.map V.bl := pbl paes
    have eb : bves = B.ends.map V.bl := pbl pbes
    subst ea eb
    have la := plen pars
    have lb := plen pbrs
    refine ⟨.ref pb, rfl, pb, _, _, .ref pbr, rfl, rfl, SqT.of hpb, atI_nat (j := 1) rfl, pbr, bvs, rfl, .inr (SqT.of hpbr), ?_⟩
    refine ⟨.ref pa, rfl, pa, _, _, .ref par, rfl, rfl, SqT.of hpa, atI_nat (j := 1) rfl, par, avs, rfl, .inr (SqT.of hpar), _, rfl, avs.length, bvs.length, rfl, rfl, by omega, _, _, rfl, rfl, _, rfl, ite2 (fun e => ?_) (fun _ => ?_)⟩
    · have e2 : (300 : Int) < ((avs.length * bvs.length : Nat) : Int) := of_decide_eq_true e
      rw [la, lb] at e2
      omega
    refine ⟨Nat.le_of_ble_eq_true rfl, fun dm ndm => ⟨Nat.le_of_ble_eq_true rfl, fun de nde => ?_⟩⟩
    have sM := same_upd (o := .lst []) ndm
    have sE := sM.trans (same_upd (o := .lst []) nde)
    have dme : de ≠ dm := fun e => by rw [e, upd_same] at nde; cases nde
    have h0e : H de = none := sM.free nde
    refine ⟨.ref pa, rfl, pa, _, _, .ref par, rfl, rfl, SqT.of (sE _ _ hpa), atI_nat (j := 1) rfl, par, avs, rfl, sE _ _ hpar,
      for_it walk_en (fun i σ H7 => ∃ mv mvs es y5 y6 y7 y8 y9, σ = [some (.ref pa), some (.ref pb), some (.int ((bvs.length : Nat) : Int)), some (.ref dm), some (.ref de), y5, y6, y7, y8, y9, none, none] ∧ Same H H7 ∧ H7 dm = some (.lst mvs) ∧ Paired (RI dm de H7) mvs mv ∧ H7 de = some (.lst (es.map V.bl)) ∧ BI A B i 0 mv es)
      ⟨[], [], [], none, none, none, none, none, rfl, sE, by rw [upd_ne dme.symm, upd_same], .nil, upd_same, ⟨by simp, by simp, fun s t ht hc => hc.elim (fun z => absurd z (Nat.not_lt_zero s)) (fun z => absurd z.2 (Nat.not_lt_zero t)), by simp⟩⟩ (fun i σ H7 _ ⟨_, _, _, _, _, _, _, _, _, sm, _⟩ => sm _ _ hpar) ?_ ?_⟩
    · rintro i yv σ H7 H8 hi ⟨mv, mvs, es, y5, y6, y7, y8, y9, rfl, sm, hmv, pmv, hes, hbi⟩ ⟨tT, y, rfl, nT, rfl, hyi⟩
      obtain ⟨row, hrow, p5, vs5, rfl, hp5, prow⟩ := pget pars hyi
      have hin : i < A.rows.length := (List.getElem?_eq_some_iff.mp hrow).1
      have hrm : row ∈ A.rows := List.mem_of_getElem? hrow
      have sm8 : Same H (upd H7 tT (.tup [.int (i : Nat), .ref p5])) := sm.trans (same_upd nT)
      have k8 := same_upd (o := .tup [.int (i : Nat), .ref p5]) nT
      refine ⟨tT, _, rfl, SqT.of upd_same, rfl, _, _, rfl, _, _, rfl, rfl, ?_⟩
      refine ⟨.ref pb, rfl, pb, _, _, .ref pbr, rfl, rfl, SqT.of (sm8 _ _ hpb), atI_nat (j := 1) rfl, pbr, bvs, rfl, sm8 _ _ hpbr,
        for_it walk_en (fun j σ H9 => ∃ mv mvs es y7 y8 y9, σ = [some (.ref pa), some (.ref pb), some (.int ((bvs.length : Nat) : Int)), some (.ref dm), some (.ref de), some (.int (i : Nat)), some (.ref p5), y7, y8, y9, none, none] ∧ Same H H9 ∧ H9 dm = some (.lst mvs) ∧ Paired (RI dm de H9) mvs mv ∧ H9 de = some (.lst (es.map V.bl)) ∧ BI A B i j mv es)
        ⟨mv, mvs, es, _, _, _, rfl, sm8, k8 _ _ hmv, pmono pmv fun v r h => h.keep (fun b o _ _ h => k8 _ _ h) (Same.ts k8), k8 _ _ hes, hbi⟩ (fun i σ H7 _ ⟨_, _, _, _, _, _, _, sm, _⟩ => sm _ _ hpbr) ?_ ?_⟩
      · rintro j yv σ H9 H10 hj ⟨mv, mvs, es, y7, y8, y9, rfl, s9, hmv, pmv, hes, hbi⟩ ⟨tT2, y, rfl, nT2, rfl, hyj⟩
        obtain ⟨row2, hrow2, p6, vs6, rfl, hp6, prow2⟩ := pget pbrs hyj
        have hjn : j < B.rows.length := (List.getElem?_eq_some_iff.mp hrow2).1
        have hrm2 : row2 ∈ B.rows := List.mem_of_getElem? hrow2
        have k10 := same_upd (o := .tup [.int (j : Nat), .ref p6]) nT2
        have s10 := s9.trans k10
        have bl : bvs.length = B.rows.length := lb
        refine ⟨tT2, _, rfl, SqT.of upd_same, rfl, _, _, rfl, _, _, rfl, rfl, ?_⟩
        obtain ⟨HA, eHA⟩ : ∃ HA, HA = upd H9 tT2 (.tup [.int (j : Nat), .ref p6]) := ⟨_, rfl⟩
        rw [← eHA] at k10 s10 ⊢
        refine ⟨.ref p5, rfl, p5, rfl, ⟨_, SqT.of (s10 _ _ hp5)⟩, fun D5 nD5 => lc_it (walk_tup (xs := vs5)) (fun n H11 => Same HA H11 ∧ ∃ ws, H11 D5 = some (.lst ws) ∧ Paired (RMe H11) ws ((row.take n).map fun p => (p.1, [p.2 * B.rows.length + j])))
          ⟨same_upd nD5, [], upd_same, .nil⟩ (fun n H11 _ ⟨s11, _⟩ => SqT.of ((s10.trans s11) _ _ hp5)) ?_ ?_⟩
        · rintro n yv H11 H12 hn ⟨s11, ws, hD5, hws⟩ ⟨rfl, hyn⟩
          obtain ⟨pq, hpq, p7, va, vb, rfl, hp7, hva, hvb⟩ := pget prow hyn
          cases (show vb = V.int _ from hvb)
          have s011 := s10.trans s11
          have hgl := aok.inb row hrm pq (List.mem_of_getElem? hpq)
          refine ⟨p7, _, rfl, SqT.of (s011 _ _ hp7), rfl, _, _, rfl, _, _, rfl, rfl, rfl, iteT (B := True) ?_⟩
          refine ⟨_, rfl, _, rfl, _, rfl, pq.2, bvs.length, rfl, rfl, by omega, _, rfl, _, _, rfl, rfl, Nat.le_of_ble_eq_true rfl, fun t8 nt8 => ⟨Nat.le_of_ble_eq_true rfl, fun t9 nt9 => ?_⟩⟩
          have ecell : (V.int (((pq.2 * bvs.length : Nat) : Int) + ((j : Nat) : Int))) = V.int ((pq.2 * B.rows.length + j : Nat) : Int) := by rw [bl]; rfl
          rw [ecell] at nt9 ⊢
          have nD8 : D5 ≠ t8 := ne_of_none hD5 nt8
          have hD8 : (upd H12 t8 (.tup [.int ((pq.2 * B.rows.length + j : Nat) : Int)])) D5 = some (.lst ws) := by rw [upd_ne nD8]; exact hD5
          have nD9 : D5 ≠ t9 := ne_of_none hD8 nt9
          have hD9 : (upd (upd H12 t8 (.tup [.int ((pq.2 * B.rows.length + j : Nat) : Int)])) t9 (.tup [va, .ref t8])) D5 = some (.lst ws) := by rw [upd_ne nD9]; exact hD8
          have wl : ws.length ≤ 100 := by
            have h1 := plen hws
            have h2 := hra row hrm
            rw [List.length_map, List.length_take] at h1
            omega
          have t10 : TSm H12 (upd (upd (upd H12 t8 (.tup [.int ((pq.2 * B.rows.length + j : Nat) : Int)])) t9 (.tup [va, .ref t8])) D5 (.lst (ws ++ [.ref t9]))) := ((TSm.new nt8).trans (TSm.new nt9)).trans (TSm.re hD9 (fun _ => nofun))
          refine ⟨ws, hD9, by rw [sizeLine_eq]; omega, same_re ((s11.trans (same_upd nt8)).trans (same_upd nt9)) nD5, _, upd_same, ?_⟩
          rw [take_snoc hpq, List.map_append]
          refine psnoc (RMe.tm.ps t10 hws) ⟨t9, va, _, rfl, by rw [upd_ne nD9.symm, upd_same], RAct.tm _ _ _ _ (Same.ts s011 |>.trans t10) hva, t8, [.int ((pq.2 * B.rows.length + j : Nat) : Int)], rfl, ?_, .cons rfl .nil⟩
          rw [upd_ne nD8.symm, upd_ne (ne_of_none upd_same nt9), upd_same]
        · rintro H11 ⟨s11, ws, hD5, hws⟩
          have et : row.take vs5.length = row := by rw [plen prow]; exact List.take_length
          rw [et] at hws
          have s011 := s10.trans s11
          refine ⟨.ref D5, rfl, .inl ⟨rfl, _, .inl (.inl hD5)⟩, .ref p6, rfl, p6, rfl, ⟨_, SqT.of (s011 _ _ hp6)⟩, fun D6 nD6 => lc_it (walk_tup (xs := vs6)) (fun n H13 => Same H11 H13 ∧ ∃ ws2, H13 D6 = some (.lst ws2) ∧ Paired (RMe H13) ws2 ((row2.take n).map fun p => (p.1, [i * B.rows.length + p.2])))
            ⟨same_upd nD6, [], upd_same, .nil⟩ (fun n H13 _ ⟨s13, _⟩ => SqT.of ((s011.trans s13) _ _ hp6)) ?_ ?_⟩
          · rintro n yv H13 H14 hn ⟨s13, ws2, hD6, hws2⟩ ⟨rfl, hyn⟩
            obtain ⟨pq, hpq, p7, va, vb, rfl, hp7, hva, hvb⟩ := pget prow2 hyn
            cases (show vb = V.int _ from hvb)
            have s013 := s011.trans s13
            refine ⟨p7, _, rfl, SqT.of (s013 _ _ hp7), rfl, _, _, rfl, _, _, rfl, rfl, rfl, iteT (B := True) ?_⟩
            refine ⟨_, rfl, _, rfl, _, rfl, i, bvs.length, rfl, rfl, by omega, _, rfl, _, _, rfl, rfl, Nat.le_of_ble_eq_true rfl, fun t8 nt8 => ⟨Nat.le_of_ble_eq_true rfl, fun t9 nt9 => ?_⟩⟩
            have ecell : (V.int (((i * bvs.length : Nat) : Int) + ((pq.2 : Nat) : Int))) = V.int ((i * B.rows.length + pq.2 : Nat) : Int) := by rw [bl]; rfl
            rw [ecell] at nt9 ⊢
            have nD8 : D6 ≠ t8 := ne_of_none hD6 nt8
            have hD8 : (upd H14 t8 (.tup [.int ((i * B.rows.length + pq.2 : Nat) : Int)])) D6 = some (.lst ws2) := by rw [upd_ne nD8]; exact hD6
            have nD9 : D6 ≠ t9 := ne_of_none hD8 nt9
            have hD9 : (upd (upd H14 t8 (.tup [.int ((i * B.rows.length + pq.2 : Nat) : Int)])) t9 (.tup [va, .ref t8])) D6 = some (.lst ws2) := by rw [upd_ne nD9]; exact hD8
            have wl : ws2.length ≤ 100 := by
              have h1 := plen hws2
              have h2 := hrb row2 hrm2
              rw [List.length_map, List.length_take] at h1
              omega
            have t10 : TSm H14 (upd (upd (upd H14 t8 (.tup [.int ((i * B.rows.length + pq.2 : Nat) : Int)])) t9 (.tup [va, .ref t8])) D6 (.lst (ws2 ++ [.ref t9]))) := ((TSm.new nt8).trans (TSm.new nt9)).trans (TSm.re hD9 (fun _ => nofun))
            refine ⟨ws2, hD9, by rw [sizeLine_eq]; omega, same_re ((s13.trans (same_upd nt8)).trans (same_upd nt9)) nD6, _, upd_same, ?_⟩
            rw [take_snoc hpq, List.map_append]
            refine psnoc (RMe.tm.ps t10 hws2) ⟨t9, va, _, rfl, by rw [upd_ne nD9.symm, upd_same], RAct.tm _ _ _ _ (Same.ts s013 |>.trans t10) hva, t8, [.int ((i * B.rows.length + pq.2 : Nat) : Int)], rfl, ?_, .cons rfl .nil⟩
            rw [upd_ne nD8.symm, upd_ne (ne_of_none upd_same nt9), upd_same]
          · rintro H13 ⟨s13, ws2, hD6, hws2⟩
            have et2 : row2.take vs6.length = row2 := by rw [plen prow2]; exact List.take_length
            rw [et2] at hws2
            have s013 := s011.trans s13
            have kA : Same HA H13 := s11.trans s13
            have k9 : Same H9 H13 := k10.trans kA
            have hD5' := s13 _ _ hD5
            have wl1 : ws.length ≤ 50 := by
              have h1 := plen hws
              have h2 := hra row hrm
              rw [List.length_map] at h1
              omega
            have wl2 : ws2.length ≤ 50 := by
              have h1 := plen hws2
              have h2 := hrb row2 hrm2
              rw [List.length_map] at h1
              omega
            have hdmA := k10 _ _ hmv
            have hdeA := k10 _ _ hes
            have d5m : D5 ≠ dm := fun e => by rw [e, hdmA] at nD5; cases nD5
            have d5e : D5 ≠ de := fun e => by rw [e, hdeA] at nD5; cases nD5
            have h05 : H D5 = none := s10.free nD5
            refine ⟨D5, D6, ws, ws2, rfl, rfl, hD5', hD6, by rw [sizeLine_eq]; omega, ?_⟩
            have hmv14 : (upd H13 D5 (.lst (ws ++ ws2))) dm = some (.lst mvs) := by rw [upd_ne d5m.symm]; exact k9 _ _ hmv
            have mlen := plen pmv
            have hlen := hbi.len
            have helen := hbi.elen
            have small : i * B.rows.length + j < A.rows.length * B.rows.length := ix_lt hin hjn
            refine ⟨.ref dm, rfl, .inl ⟨rfl, _, .inl (.inl hmv14)⟩, _, rfl, dm, mvs, _, rfl, rfl, hmv14, by rw [sizeLine_eq]; omega, ?_⟩
            have hes15 : (upd (upd H13 D5 (.lst (ws ++ ws2))) dm (.lst (mvs ++ [.ref D5]))) de = some (.lst (es.map V.bl)) := by rw [upd_ne dme, upd_ne d5e.symm]; exact k9 _ _ hes
            have sF15 : Same H (upd (upd H13 D5 (.lst (ws ++ ws2))) dm (.lst (mvs ++ [.ref D5]))) := same_re (same_re s013 h05) ndm
            have hAe : (A.ends.map V.bl)[i]? = some (.bl (A.ends.getD i false)) := by rw [List.getElem?_map, some_getD (d := false) (by rw [aok.len]; exact hin)]; rfl
            have hBe : (B.ends.map V.bl)[j]? = some (.bl (B.ends.getD j false)) := by rw [List.getElem?_map, some_getD (d := false) (by rw [bok.len]; exact hjn)]; rfl
            have tF : TSm H13 (upd (upd (upd H13 D5 (.lst (ws ++ ws2))) dm (.lst (mvs ++ [.ref D5]))) de (.lst (es.map V.bl ++ [.bl (A.ends.getD i false && B.ends.getD j false)]))) := ((TSm.re hD5' (fun _ => nofun)).trans (TSm.re hmv14 (fun _ => nofun))).trans (TSm.re hes15 (fun _ => nofun))
            have fin : Same H (upd (upd (upd H13 D5 (.lst (ws ++ ws2))) dm (.lst (mvs ++ [.ref D5]))) de (.lst (es.map V.bl ++ [.bl (A.ends.getD i false && B.ends.getD j false)]))) ∧ (upd (upd (upd H13 D5 (.lst (ws ++ ws2))) dm (.lst (mvs ++ [.ref D5]))) de (.lst (es.map V.bl ++ [.bl (A.ends.getD i false && B.ends.getD j false)]))) dm = some (.lst (mvs ++ [.ref D5])) ∧
                Paired (RI dm de (upd (upd (upd H13 D5 (.lst (ws ++ ws2))) dm (.lst (mvs ++ [.ref D5]))) de (.lst (es.map V.bl ++ [.bl (A.ends.getD i false && B.ends.getD j false)])))) (mvs ++ [.ref D5]) (mv ++ [pairRow B.rows.length i j (A.rows.getD i []) (B.rows.getD j [])]) := by
              refine ⟨same_re sF15 h0e, by rw [upd_ne dme.symm, upd_same], psnoc ?_ ⟨D5, ws ++ ws2, rfl, d5m, d5e, ?_, ?_⟩⟩
              · refine Paired.mapP pmv ?_
                intro v r h
                obtain ⟨p, vs, e, n1, n2, hp, hq⟩ := h
                have np5 : p ≠ D5 := fun z => by rw [← z, k10 _ _ hp] at nD5; cases nD5
                exact ⟨p, vs, e, n1, n2, by rw [upd_ne n2, upd_ne n1, upd_ne np5]; exact k9 _ _ hp, RMe.tm.ps ((Same.ts k9).trans tF) hq⟩
              · rw [upd_ne d5e, upd_ne d5m, upd_same]
              · unfold pairRow
                rw [getD_some hrow, getD_some hrow2]
                exact papp (RMe.tm.ps ((Same.ts s13).trans tF) hws) (RMe.tm.ps tF hws2)
            have hbn := hbi.next hin hjn aok bok
            refine ⟨.ref de, rfl, .inl ⟨rfl, _, .inl (.inl hes15)⟩, .ref pa, rfl, pa, _, _, .ref pae, rfl, rfl, SqT.of (sF15 _ _ hpa), atI_nat (j := 2) rfl, _, rfl, pae, _, _, _, rfl, rfl, SqT.of (sF15 _ _ hpae), atI_nat hAe, _, rfl, ite2 (fun e1 => ?_) (fun e1 => ?_)⟩
            · rw [e1, Bool.true_and] at fin hbn
              refine ⟨.ref pb, rfl, pb, _, _, .ref pbe, rfl, rfl, SqT.of (sF15 _ _ hpb), atI_nat (j := 2) rfl, _, rfl, pbe, _, _, _, rfl, rfl, SqT.of (sF15 _ _ hpbe), atI_nat hBe, de, _, _, rfl, rfl, hes15, by rw [List.length_map, sizeLine_eq]; omega, ?_⟩
              exact ⟨_, _, _, _, _, _, rfl, fin.1, fin.2.1, fin.2.2, by rw [upd_same, List.map_append]; rfl, hbn⟩
            · have e2 : A.ends.getD i false = false := by
                cases h : A.ends.getD i false with
                | false => rfl
                | true => exact absurd h e1
              rw [e2, Bool.false_and] at fin hbn
              refine ⟨de, _, _, rfl, rfl, hes15, by rw [List.length_map, sizeLine_eq]; omega, ?_⟩
              exact ⟨_, _, _, _, _, _, rfl, fin.1, fin.2.1, fin.2.2, by rw [upd_same, List.map_append]; rfl, hbn⟩
      · rintro σ H9 ⟨mv, mvs, es, y7, y8, y9, rfl, s9, hmv, pmv, hes, hbi⟩
        rw [lb] at hbi
        exact ⟨mv, mvs, es, _, _, _, _, _, rfl, s9, hmv, pmv, hes, hbi.line⟩
    · rintro σ H7 ⟨mv, mvs, es, y5, y6, y7, y8, y9, rfl, sm, hmv, pmv, hes, hbi⟩
      rw [la] at hbi
      have hB2 : BMv A B mv es := ⟨by rw [hbi.len]; omega, by rw [hbi.elen]; omega, fun s t hs ht => hbi.cell s t ht (.inl hs)⟩
      have hin := bes_in aok bok ap h60 hra hrb hB2 fun r hr x hx g hg => by have := hbi.bd r hr x hx g hg; omega
      refine ⟨Nat.le_of_ble_eq_true rfl, fun ts nts => ?_⟩
      have s8 : Same H7 (upd H7 ts (.tup [.int 0])) := same_upd nts
      refine ⟨_, rfl, _, rfl, _, _, _, [0], mv, es, 300, PP A B, rfl, ⟨ts, _, rfl, upd_same, .cons rfl .nil⟩, ⟨dm, mvs, rfl, s8 _ _ hmv, pmono pmv fun v r ⟨p, vs, e, _, _, hp, hq⟩ => ⟨p, vs, e, s8 _ _ hp, RMe.tm.ps (Same.ts s8) hq⟩⟩, ⟨de, rfl, .inl (s8 _ _ hes)⟩, hin, fun H' q' T os sF nq hT' hsub hos => ?_⟩
      have sA := sm.trans s8
      refine q H' q' T (sA.trans sF) (sA.free nq) hT' hsub.ok ?_ (fun r hr => ?_) ⟨_, bes_of aok bok ap hB2 hsub hos⟩
      · rw [hsub.len]
        have := nodup_le (D := (List.range (A.rows.length * B.rows.length)).map fun c => [c]) hsub.nd fun l hl => by
          obtain ⟨⟨s, t, hs, ht, rfl⟩, _⟩ := hos l hl
          exact List.mem_map.mpr ⟨_, List.mem_range.mpr (ix_lt hs ht), rfl⟩
        rwa [List.length_map, List.length_range] at this
      · obtain ⟨l, hl, h1⟩ := hsub.rowlen r hr
        obtain ⟨⟨s, t, hs, ht, rfl⟩, _⟩ := hos l hl
        rw [mvAt_one, (hB2.cell s t hs ht).1] at h1
        unfold pairRow at h1
        rw [List.length_append, List.length_map, List.length_map, getD_some (List.getElem?_eq_getElem hs), getD_some (List.getElem?_eq_getElem ht)] at h1
        have := hra _ (List.getElem_mem hs)
        have := hrb _ (List.getElem_mem ht)
        omega
end
end PL
namespace PL
open PySem PySem.Spec PyProof.Rows L2
def Disj (A B : Tbl) : Prop := ∀ p, Occ A p → Occ B p → False
theorem Disj.sym {A B : Tbl} (h : Disj A B) : Disj B A := fun p a b => h p b a
theorem next_occ2 {T : Tbl} {s g : Nat} {a : Act} (h : T.next s a = some g) : Occ T a.1 ∧ Occ T a.2.1 := by
  obtain ⟨row, q1, q2⟩ := Tbl.OK.of_next h
  exact ⟨⟨row, List.mem_of_getElem? q1, _, q2, .inl rfl⟩, ⟨row, List.mem_of_getElem? q1, _, q2, .inr rfl⟩⟩
theorem Disj.apart {A B : Tbl} (h : Disj A B) : Apart A B := fun s t a => by
  cases e1 : A.next s a with
  | none => exact .inl rfl
  | some g =>
    right
    cases e2 : B.next t a with
    | none => rfl
    | some g' => exact (h a.1 (next_occ2 e1).1 (next_occ2 e2).1).elim
theorem Bes.sym {A B T : Tbl} {R : Nat → Nat → Nat → Prop} (h : Bes A B T R) : Bes B A T (fun b t s => R b s t) where
  first := h.first
  lt := fun b t s r => let q := h.lt b s t r; ⟨q.2.1, q.1, q.2.2⟩
  fn := fun b t s t' s' r r' => let q := h.fn b s t s' t' r r'; ⟨q.2, q.1⟩
  inj := fun b b' t s r r' => h.inj b b' s t r r'
  ends := fun b t s r => by rw [h.ends b s t r, Bool.and_comm]
  none := fun b t s a r h1 h2 => h.none b s t a r h2 h1
  one := fun b t s a g r hg => h.two b s t a g r hg
  two := fun b t s a g r hg => h.one b s t a g r hg
  all := fun b hb => let ⟨s, t, r⟩ := h.all b hb; ⟨t, s, r⟩
section
variable {A B T : Tbl} {R : Nat → Nat → Nat → Prop}
/-- the first walks on -/
theorem Bes.goA (h : Bes A B T R) : ∀ (r : List Act) (b s t s' : Nat), R b s t → A.walkF s r = some s' → ∃ b', T.walkF b r = some b' ∧ R b' s' t
  | [], b, s, t, s', hr, e => by
    cases e
    exact ⟨b, rfl, hr⟩
  | a :: r, b, s, t, s', hr, e => by
    simp only [Tbl.walkF] at e ⊢
    cases h1 : A.next s a with
    | none => rw [h1] at e; cases e
    | some g =>
      rw [h1] at e
      obtain ⟨c, c1, c2⟩ := h.one b s t a g hr h1
      rw [c1]
      exact h.goA r c g t s' c2 e
theorem Bes.goB (h : Bes A B T R) (r : List Act) (b s t t' : Nat) (hr : R b s t) (e : B.walkF t r = some t') : ∃ b', T.walkF b r = some b' ∧ R b' s t' := h.sym.goA r b t s t' hr e
/-- a run of the first, then one of the other -/
theorem Bes.both (h : Bes A B T R) {r1 r2 : List Act} {s t : Nat} (h1 : A.walk r1 = some s) (h2 : B.walk r2 = some t) : ∃ b, T.walk (r1 ++ r2) = some b ∧ R b s t := by
  obtain ⟨b1, q1, q2⟩ := h.goA r1 0 0 0 s h.first h1
  obtain ⟨b2, q3, q4⟩ := h.goB r2 b1 s 0 t q2 h2
  exact ⟨b2, by unfold Tbl.walk; rw [Tbl.walkF_app, q1]; exact q3, q4⟩
/-- what an action of the table is -/
theorem Bes.step (h : Bes A B T R) {b s t c : Nat} {a : Act} (hr : R b s t) (e : T.next b a = some c) : (∃ g, A.next s a = some g ∧ R c g t) ∨ ∃ g, B.next t a = some g ∧ R c s g := by
  cases e1 : A.next s a with
  | some g =>
    obtain ⟨c', c1, c2⟩ := h.one b s t a g hr e1
    rw [e] at c1
    cases c1
    exact .inl ⟨g, rfl, c2⟩
  | none =>
    cases e2 : B.next t a with
    | some g =>
      obtain ⟨c', c1, c2⟩ := h.two b s t a g hr e2
      rw [e] at c1
      cases c1
      exact .inr ⟨g, rfl, c2⟩
    | none =>
      rw [h.none b s t a hr e1 e2] at e
      cases e
/-- the actions of one table -/
noncomputable def oc (A : Tbl) (a : Act) : Bool := @decide (Occ A a.1) (Classical.propDecidable _)
theorem oc_iff {A : Tbl} {a : Act} : oc A a = true ↔ Occ A a.1 := by
  unfold oc
  exact @decide_eq_true_iff _ (Classical.propDecidable _)
noncomputable def only (A : Tbl) (r : List Act) : List Act := r.filter (oc A)
theorem only_app (A : Tbl) (r u : List Act) : only A (r ++ u) = only A r ++ only A u := List.filter_append ..
theorem only_one {A : Tbl} {a : Act} (h : Occ A a.1) : only A [a] = [a] := by
  unfold only
  rw [List.filter_cons_of_pos (oc_iff.mpr h)]
  rfl
theorem only_not {A : Tbl} {a : Act} (h : ¬ Occ A a.1) : only A [a] = [] := by
  unfold only
  rw [List.filter_cons_of_neg (fun z => h (oc_iff.mp z))]
  rfl
/-- a run of both is a run of each -/
theorem Bes.split (h : Bes A B T R) (d : Disj A B) : ∀ (n : Nat) (r : List Act) (b : Nat), r.length = n → T.walk r = some b → ∃ s t, R b s t ∧ A.walk (only A r) = some s ∧ B.walk (only B r) = some t ∧ ∀ a ∈ r, (∃ s g, A.next s a = some g) ∨ ∃ t g, B.next t a = some g
  | 0, r, b, hr, hw => by
    have : r = [] := List.eq_nil_of_length_eq_zero hr
    subst this
    cases hw
    exact ⟨0, 0, h.first, rfl, rfl, by simp⟩
  | n + 1, r, b, hr, hw => by
    have hne : r ≠ [] := fun e => by rw [e] at hr; cases hr
    obtain ⟨r', a, rfl⟩ : ∃ r' a, r = r' ++ [a] := ⟨r.dropLast, r.getLast hne, (List.dropLast_concat_getLast hne).symm⟩
    rw [List.length_append, List.length_singleton] at hr
    rw [walk_snoc] at hw
    cases hw' : T.walk r' with
    | none => rw [hw'] at hw; cases hw
    | some b' =>
      rw [hw'] at hw
      have hw : T.next b' a = some b := hw
      obtain ⟨s, t, hR, h1, h2, h3⟩ := h.split d n r' b' (by omega) hw'
      rw [only_app, only_app]
      rcases h.step hR hw with ⟨g, e1, e2⟩ | ⟨g, e1, e2⟩
      · have oa := (next_occ2 e1).1
        rw [only_one oa, only_not (fun z => d _ oa z), List.append_nil, walk_snoc, h1]
        refine ⟨g, t, e2, e1, h2, fun x hx => ?_⟩
        rcases List.mem_append.mp hx with hx | hx
        · exact h3 x hx
        · have : x = a := by simpa using hx
          exact this ▸ .inl ⟨s, g, e1⟩
      · have ob := (next_occ2 e1).1
        rw [only_one ob, only_not (fun z => d _ z ob), List.append_nil, walk_snoc, h2]
        refine ⟨s, g, e2, h1, e1, fun x hx => ?_⟩
        rcases List.mem_append.mp hx with hx | hx
        · exact h3 x hx
        · have : x = a := by simpa using hx
          exact this ▸ .inr ⟨t, g, e1⟩
theorem conc_cases {a : Act} {p : Str} (h : conc a p = true) : a.1 = p ∨ a.2.1 = p := by
  unfold conc at h
  rw [Bool.or_eq_true, decide_eq_true_eq, decide_eq_true_eq] at h
  exact h
/-- what a party of the first sees is of the first -/
theorem view_only (d : Disj A B) {r : List Act} (h : ∀ a ∈ r, (∃ s g, A.next s a = some g) ∨ ∃ t g, B.next t a = some g) {p : Str} (hp : Occ A p) : vw (only A r) p = vw r p := by
  unfold vw only
  rw [List.filter_filter]
  refine List.filter_congr fun a ha => ?_
  by_cases hc : conc a p = true
  · have : Occ A a.1 := by
      rcases h a ha with ⟨s, g, e⟩ | ⟨t, g, e⟩
      · exact (next_occ2 e).1
      · exfalso
        have o := next_occ2 e
        rcases conc_cases hc with e | e
        · exact d p hp (e ▸ o.1)
        · exact d p hp (e ▸ o.2)
    rw [hc, Bool.true_and]
    exact oc_iff.mpr this
  · have : conc a p = false := by simpa using hc
    rw [this, Bool.false_and]
/-- a run of the other shows nothing to a party of the first -/
theorem walk_acts {T : Tbl} : ∀ (r : List Act) (s g : Nat), T.walkF s r = some g → ∀ a ∈ r, ∃ s g, T.next s a = some g
  | [], _, _, _, _, h => by cases h
  | b :: r, s, g, e, a, h => by
    simp only [Tbl.walkF] at e
    cases h1 : T.next s b with
    | none => rw [h1] at e; cases e
    | some c =>
      rw [h1] at e
      rcases List.mem_cons.mp h with e2 | h
      · exact ⟨s, c, e2 ▸ h1⟩
      · exact walk_acts r c g e a h
theorem view_other (d : Disj A B) {r : List Act} {t : Nat} (h : B.walk r = some t) {p : Str} (hp : Occ A p) : vw r p = [] := by
  refine vw_none fun a ha => ?_
  obtain ⟨s, g, e⟩ := walk_acts r 0 t h a ha
  have o := next_occ2 e
  cases hc : conc a p with
  | false => rfl
  | true =>
    exfalso
    rcases conc_cases hc with e | e
    · exact d p hp (e ▸ o.1)
    · exact d p hp (e ▸ o.2)
theorem Bes.k1 (h : Bes A B T R) (d : Disj A B) {p : Str} (hp : Occ A p) {w : List Act} {b : Nat} (hk : Kn T p w b) : ∃ s t, R b s t ∧ Kn A p w s ∧ ∃ r, B.walk r = some t := by
  obtain ⟨r, h1, h2⟩ := hk
  obtain ⟨s, t, q1, q2, q3, q4⟩ := h.split d r.length r b rfl h1
  exact ⟨s, t, q1, ⟨only A r, q2, by rw [view_only d q4 hp, h2]⟩, only B r, q3⟩
theorem Bes.k2 (h : Bes A B T R) (d : Disj A B) {p : Str} (hp : Occ A p) {w : List Act} {s : Nat} (hk : Kn A p w s) {r2 : List Act} {t : Nat} (h2 : B.walk r2 = some t) : ∃ b, R b s t ∧ Kn T p w b := by
  obtain ⟨r, h1, hv⟩ := hk
  obtain ⟨b, q1, q2⟩ := h.both h1 h2
  exact ⟨b, q2, r ++ r2, q1, by rw [vw_app, hv, view_other d h2 hp, List.append_nil]⟩
theorem Bes.occ (h : Bes A B T R) (hok : T.OK) {p : Str} (hp : Occ T p) : Occ A p ∨ Occ B p := by
  obtain ⟨row, hr, x, hx, e⟩ := hp
  obtain ⟨b, hb, eb⟩ := List.getElem_of_mem hr
  obtain ⟨s, t, hR⟩ := h.all b hb
  have hn := hok.next_of (s := b) (by rw [List.getElem?_eq_getElem hb, eb]) hx
  rcases h.step hR hn with ⟨g, e1, _⟩ | ⟨g, e1, _⟩
  · have o := next_occ2 e1
    exact .inl (e.elim (fun e => e ▸ o.1) fun e => e ▸ o.2)
  · have o := next_occ2 e1
    exact .inr (e.elim (fun e => e ▸ o.1) fun e => e ▸ o.2)
def CanEnd (T : Tbl) : Prop := ∃ r s, T.walk r = some s ∧ T.ends.getD s false = true
theorem Bes.accA (h : Bes A B T R) (d : Disj A B) (ea : CanEnd A) (eb : CanEnd B) (acc : Acc2 T) : Acc2 A := by
  intro r s hw
  constructor
  · rintro ⟨a, n, m, h1, h2, h3⟩
    obtain ⟨b, q1, q2⟩ := h.both (r2 := []) hw rfl
    rw [List.append_nil] at q1
    have oc := kn_occ h1
    obtain ⟨b1, _, k1⟩ := h.k2 d oc.1 h1 (r2 := []) rfl
    obtain ⟨b2, _, k2⟩ := h.k2 d oc.2.1 h2 (r2 := []) rfl
    refine (acc r b q1).1 ⟨a, b1, b2, k1, k2, h.none b s 0 a q2 h3 ?_⟩
    cases e : B.next 0 a with
    | none => rfl
    | some g => exact (d _ oc.1 (next_occ2 e).1).elim
  · rintro ⟨h1, h2⟩
    obtain ⟨rb, tb, hwb, htb⟩ := eb
    obtain ⟨ra, sa, hwa, hsa⟩ := ea
    obtain ⟨b, q1, q2⟩ := h.both hw hwb
    refine (acc (r ++ rb) b q1).2 ⟨by rw [h.ends b s tb q2, h1]; rfl, fun a c hc => ?_⟩
    rcases h.step q2 hc with ⟨g, e1, _⟩ | ⟨g, e1, _⟩
    · have oa := (next_occ2 e1).1
      obtain ⟨n, k1, k2⟩ := h2 a g e1
      obtain ⟨b2, r2, k3⟩ := h.k2 d oa k1 hwb
      refine ⟨b2, by rw [vw_app, view_other d hwb oa, List.append_nil]; exact k3, by rw [h.ends b2 n tb r2, k2, htb]; rfl⟩
    · have ob := (next_occ2 e1).1
      obtain ⟨b2, r2, k3⟩ := h.sym.k2 d.sym ob (w := vw rb a.1) ⟨rb, hwb, rfl⟩ hwa
      refine ⟨b2, by rw [vw_app, view_other d.sym hw ob, List.nil_append]; exact k3, by rw [h.sym.ends b2 tb sa r2, htb, hsa]; rfl⟩
/-- what is amiss in both is amiss in one -/
theorem Bes.strayA (h : Bes A B T R) (d : Disj A B) {r : List Act} {b s t : Nat} (hR : R b s t) (ha : A.walk (only A r) = some s) (hall : ∀ a ∈ r, (∃ s g, A.next s a = some g) ∨ ∃ t g, B.next t a = some g) {a : Act} (oo : Occ A a.1) {n m : Nat} (h1 : Kn T a.1 (vw r a.1 ++ [a]) n)
    (h2 : Kn T a.2.1 (vw r a.2.1 ++ [a]) m) (h3 : T.next b a = Option.none) : Stray A (only A r) s := by
  obtain ⟨s1, _, _, k1, _⟩ := h.k1 d oo h1
  have oc2 := (kn_occ k1).2.1
  obtain ⟨s2, _, _, k2, _⟩ := h.k1 d oc2 h2
  refine ⟨a, s1, s2, by rw [view_only d hall oo]; exact k1, by rw [view_only d hall oc2]; exact k2, ?_⟩
  cases e : A.next s a with
  | none => rfl
  | some g =>
    obtain ⟨c, c1, _⟩ := h.one b s t a g hR e
    rw [h3] at c1
    cases c1
theorem Bes.idleA (h : Bes A B T R) (d : Disj A B) {r : List Act} {b s t : Nat} (hR : R b s t) (hall : ∀ a ∈ r, (∃ s g, A.next s a = some g) ∨ ∃ t g, B.next t a = some g) (he : A.ends.getD s false = false)
    (hi : ∀ a g, T.next b a = some g → ∃ n, Kn T a.1 (vw r a.1) n ∧ T.ends.getD n false = true) : Idle A (only A r) s := by
  refine ⟨he, fun a g hg => ?_⟩
  have oa := (next_occ2 hg).1
  obtain ⟨c, c1, _⟩ := h.one b s t a g hR hg
  obtain ⟨n, k1, k2⟩ := hi a c c1
  obtain ⟨s1, t1, r1, k3, _⟩ := h.k1 d oa k1
  rw [h.ends n s1 t1 r1, Bool.and_eq_true] at k2
  exact ⟨s1, by rw [view_only d hall oa]; exact k3, k2.1⟩
theorem or_comm_all {r : List Act} (h : ∀ a ∈ r, (∃ s g, A.next s a = some g) ∨ ∃ t g, B.next t a = some g) : ∀ a ∈ r, (∃ t g, B.next t a = some g) ∨ ∃ s g, A.next s a = some g := fun a ha => (h a ha).symm
theorem Bes.acc (h : Bes A B T R) (hok : T.OK) (d : Disj A B) (ea : CanEnd A) (eb : CanEnd B) : Acc2 T ↔ Acc2 A ∧ Acc2 B := by
  refine ⟨fun acc => ⟨h.accA d ea eb acc, h.sym.accA d.sym eb ea acc⟩, fun ⟨accA, accB⟩ r b hw => ?_⟩
  obtain ⟨s, t, hR, h1, h2, h3⟩ := h.split d r.length r b rfl hw
  constructor
  · rintro ⟨a, n, m, k1, k2, k3⟩
    rcases h.occ hok (kn_occ k1).1 with o | o
    · exact (accA _ s h1).1 (h.strayA d hR h1 h3 o k1 k2 k3)
    · exact (accB _ t h2).1 (h.sym.strayA d.sym hR h2 (or_comm_all h3) o k1 k2 k3)
  · rintro ⟨k1, k2⟩
    rw [h.ends b s t hR, Bool.and_eq_false_iff] at k1
    rcases k1 with k1 | k1
    · exact (accA _ s h1).2 (h.idleA d hR h3 k1 k2)
    · exact (accB _ t h2).2 (h.sym.idleA d.sym hR (or_comm_all h3) k1 k2)
theorem Bes.readyA (h : Bes A B T R) (d : Disj A B) (rd : Ready T) : Ready A := by
  intro r s hw a n hn e
  have oc := (kn_occ hn).1
  obtain ⟨b, q1, q2⟩ := h.both (r2 := []) hw rfl
  rw [List.append_nil] at q1
  obtain ⟨b1, _, k1⟩ := h.k2 d oc hn (r2 := []) rfl
  refine rd r b q1 a b1 k1 (h.none b s 0 a q2 e ?_)
  cases e2 : B.next 0 a with
  | none => rfl
  | some g => exact (d _ oc (next_occ2 e2).1).elim
theorem Bes.readyT (h : Bes A B T R) (d : Disj A B) (rd : Ready A) {r : List Act} {b s t : Nat} (hR : R b s t) (h1 : A.walk (only A r) = some s) (hall : ∀ a ∈ r, (∃ s g, A.next s a = some g) ∨ ∃ t g, B.next t a = some g) {a : Act} (oo : Occ A a.1) {n : Nat} (hn : Kn T a.1 (vw r a.1 ++ [a]) n) : T.next b a ≠ Option.none := by
  obtain ⟨s1, _, _, k1, _⟩ := h.k1 d oo hn
  intro e
  refine rd _ s h1 a s1 (by rw [view_only d hall oo]; exact k1) ?_
  cases e2 : A.next s a with
  | none => rfl
  | some g =>
    obtain ⟨c, c1, _⟩ := h.one b s t a g hR e2
    rw [e] at c1
    cases c1
theorem Bes.ready (h : Bes A B T R) (hok : T.OK) (d : Disj A B) : Ready T ↔ Ready A ∧ Ready B := by
  refine ⟨fun rd => ⟨h.readyA d rd, h.sym.readyA d.sym rd⟩, fun ⟨ra, rb⟩ r b hw a n hn => ?_⟩
  obtain ⟨s, t, hR, h1, h2, h3⟩ := h.split d r.length r b rfl hw
  rcases h.occ hok (kn_occ hn).1 with o | o
  · exact h.readyT d ra hR h1 h3 o hn
  · exact h.sym.readyT d.sym rb hR h2 (or_comm_all h3) o hn
end
/-! few sets -/
def allB : Nat → List (List Bool)
  | 0 => [[]]
  | n + 1 => (allB n).map (true :: ·) ++ (allB n).map (false :: ·)
theorem allB_len : ∀ n, (allB n).length = 2 ^ n
  | 0 => rfl
  | n + 1 => by rw [allB, List.length_append, List.length_map, List.length_map, allB_len n, Nat.pow_succ]; omega
theorem allB_mem : ∀ {n : Nat} {l : List Bool}, l.length = n → l ∈ allB n
  | 0, [], _ => by simp [allB]
  | n + 1, b :: l, h => by
    have ih := allB_mem (n := n) (l := l) (by simpa using h)
    rw [allB, List.mem_append, List.mem_map, List.mem_map]
    cases b
    · exact .inr ⟨l, ih, rfl⟩
    · exact .inl ⟨l, ih, rfl⟩
theorem few_by {α : Type} {n : Nat} {L : List α} (nd : L.Nodup) (f : α → Nat → Prop) (inj : ∀ a ∈ L, ∀ b ∈ L, (∀ i, i < n → (f a i ↔ f b i)) → a = b) : L.length ≤ 2 ^ n := by
  have := nodup_le (l := L.map fun a => (List.range n).map fun i => @decide (f a i) (Classical.propDecidable _)) (D := allB n) (map_nodup_on nd fun a ha b hb e => inj a ha b hb fun i hi => ?_) fun x hx => ?_
  · rwa [List.length_map, allB_len] at this
  · have e2 := congrArg (fun l : List Bool => l[i]?) e
    simp only [List.getElem?_map, List.getElem?_range hi, Option.map_some, Option.some.injEq, decide_eq_decide] at e2
    exact e2
  · obtain ⟨a, _, rfl⟩ := List.mem_map.mp hx
    exact allB_mem (by rw [List.length_map, List.length_range])
theorem few_small {T : Tbl} (hok : T.OK) (h4 : T.rows.length ≤ 4) (p : Str) : Few T p := by
  intro L nd hL
  have := few_by (n := T.rows.length) nd (fun l s => s ∈ l) fun a ha b hb h => by
    obtain ⟨aa, wa, hwa⟩ := hL a ha
    obtain ⟨ab, wb, hwb⟩ := hL b hb
    refine asc_ext aa ab fun s => ?_
    by_cases hs : s < T.rows.length
    · exact h s hs
    · exact ⟨fun z => absurd (kn_lt hok ((hwa s).mp z)) hs, fun z => absurd (kn_lt hok ((hwb s).mp z)) hs⟩
  have h2 : 2 ^ T.rows.length ≤ 2 ^ 4 := Nat.pow_le_pow_right (by decide) h4
  omega
theorem Bes.few {A B T : Tbl} {R : Nat → Nat → Nat → Prop} (h : Bes A B T R) (aok : A.OK) (d : Disj A B) (h4 : A.rows.length ≤ 4) {p : Str} (hp : Occ A p) : Few T p := by
  intro L nd hL
  have key : ∀ {l : List Nat} {w : List Act}, (∀ s, s ∈ l ↔ Kn T p w s) → ∀ s, Kn A p w s ↔ ∃ b ∈ l, ∃ t, R b s t := by
    intro l w hl s
    constructor
    · intro hk
      obtain ⟨b, q1, q2⟩ := h.k2 d hp hk (r2 := []) rfl
      exact ⟨b, (hl b).mpr q2, 0, q1⟩
    · rintro ⟨b, hb, t, hR⟩
      obtain ⟨s', t', q1, q2, _⟩ := h.k1 d hp ((hl b).mp hb)
      obtain ⟨e1, _⟩ := h.fn b s t s' t' hR q1
      rw [e1]
      exact q2
  have := few_by (n := A.rows.length) nd (fun l s => ∃ b ∈ l, ∃ t, R b s t) fun a ha b hb hh => by
    obtain ⟨aa, wa, hwa⟩ := hL a ha
    obtain ⟨ab, wb, hwb⟩ := hL b hb
    have ee : ∀ s, Kn A p wa s ↔ Kn A p wb s := by
      intro s
      by_cases hs : s < A.rows.length
      · rw [key hwa, key hwb]
        exact hh s hs
      · exact ⟨fun z => absurd (kn_lt aok z) hs, fun z => absurd (kn_lt aok z) hs⟩
    have gen : ∀ {w w' : List Act} {x : Nat}, (∀ s, Kn A p w s → Kn A p w' s) → Kn T p w x → Kn T p w' x := by
      intro w w' x hs hk
      obtain ⟨s, t, q1, q2, r, q3⟩ := h.k1 d hp hk
      obtain ⟨x', r1, r2⟩ := h.k2 d hp (hs s q2) q3
      rw [h.inj x x' s t q1 r1]
      exact r2
    refine asc_ext aa ab fun x => ?_
    rw [hwa, hwb]
    exact ⟨gen fun s => (ee s).mp, gen fun s => (ee s).mpr⟩
  have h2 : 2 ^ A.rows.length ≤ 2 ^ 4 := Nat.pow_le_pow_right (by decide) h4
  omega
end PL
namespace PL
open PySem PySem.Spec PyProof.Rows L2
/-! the law's own draws -/
/-- all but one address stands -/
def SB (q : Addr) (H H' : Hp) : Prop := ∀ b o, b ≠ q → H b = some o → H' b = some o
theorem SB.rfl {q : Addr} {H : Hp} : SB q H H := fun _ _ _ h => h
theorem SB.trans {q : Addr} {H H' H'' : Hp} (s : SB q H H') (t : SB q H' H'') : SB q H H'' := fun b o n h => t b o n (s b o n h)
theorem SB.upd {q : Addr} {H H' : Hp} {o : HO} (s : SB q H H') : SB q H (upd H' q o) := fun b u n h => by
  rw [upd_ne n]
  exact s b u n h
theorem SB.of {q : Addr} {H H' : Hp} (s : Same H H') : SB q H H' := fun b o _ h => s b o h
/-- the state of the draws -/
def RSt (pl : Addr) (H : Hp) (q : Addr) : Prop := ∃ (ns : List Int) (i c l : Nat) (b : Bool), H q = some (.lst [.ref pl, .int (i : Int), .int (c : Int), .int (l : Int), .bl b, .int 500]) ∧ pl ≠ q ∧ H pl = some (.lst (ns.map V.int)) ∧ ns.length ≤ 1000
theorem RSt.same {pl : Addr} {H H' : Hp} {q : Addr} (h : RSt pl H q) (s : Same H H') : RSt pl H' q := by
  obtain ⟨ns, i, c, l, b, h1, h2, h3, h4⟩ := h
  exact ⟨ns, i, c, l, b, s _ _ h1, h2, s _ _ h3, h4⟩
theorem RSt.some {pl : Addr} {H : Hp} {q : Addr} (h : RSt pl H q) : ∃ xs, H q = some (.lst xs) := by
  obtain ⟨ns, i, c, l, b, h1, _⟩ := h
  exact ⟨_, h1⟩
/-- a new object changes -/
theorem RSt.re {pl : Addr} {H : Hp} {q d : Addr} {o : HO} (h : RSt pl H q) (n1 : d ≠ q) (n2 : d ≠ pl) : RSt pl (L2.upd H d o) q := by
  obtain ⟨ns, i, c, l, b, h1, h2, h3, h4⟩ := h
  exact ⟨ns, i, c, l, b, by rw [upd_ne n1.symm]; exact h1, h2, by rw [upd_ne n2.symm]; exact h3, h4⟩
theorem RSt.apart {pl : Addr} {H : Hp} {q d : Addr} (h : RSt pl H q) (n : H d = none) : d ≠ q ∧ d ≠ pl := by
  obtain ⟨ns, i, c, l, b, h1, h2, h3, h4⟩ := h
  refine ⟨fun e => ?_, fun e => ?_⟩
  · rw [e, h1] at n
    cases n
  · rw [e, h3] at n
    cases n
theorem SB.re {q d : Addr} {H H' : Hp} {o : HO} (s : SB q H H') (n : H d = none) : SB q H (L2.upd H' d o) := fun b u nb h => by
  rw [upd_ne (ne_of_none h n)]
  exact s b u nb h
/-- new after draws: new before -/
theorem SB.free {pl q p : Addr} {H H' : Hp} (s : SB q H H') (h : RSt pl H' q) (n : H' p = none) : H p = none := by
  obtain ⟨xs, hx⟩ := h.some
  have hpq : p ≠ q := fun e => by rw [e, hx] at n; cases n
  cases e : H p with
  | none => rfl
  | some o =>
    have := s p o hpq e
    rw [n] at this
    cases this
/-- tuples stand through draws -/
theorem SB.ts {pl q : Addr} {H H' : Hp} (s : SB q H H') (h : RSt pl H q) : TSm H H' := fun b xs hb => by
  obtain ⟨ys, hy⟩ := h.some
  exact s b _ (fun e => by rw [e, hy] at hb; cases hb) hb
def stL (pl : Addr) (i c l : Nat) (b : Bool) : List V := [.ref pl, .int (i : Int), .int (c : Int), .int (l : Int), .bl b, .int 500]
abbrev sLst : Stmt := topS 35
theorem scLst : FnScope ["_law_script"] ["_law_script"] (defScope sLst) := ⟨rfl, rfl, rfl, by decide +kernel, rfl, by decide +kernel, by decide +kernel⟩
def spLst (K : PySem.W.Frag) : Sp := fun vs H Q _ => ∃ (p : Addr) (ns : List Int), vs = [.ref p] ∧ SqL K H p (ns.map V.int) ∧ ns.length ≤ 1000 ∧ ∀ (H' : Hp) (q pl : Addr), Same H H' → H q = none → H pl = none → RSt pl H' q → Q (.ref q) H'
abbrev sDraw : Stmt := topS 36
abbrev nDraw : List Str := ["_law_state_here", "_law_limit", "_law_cell", "_law_digit", "_law_mixed"]
theorem scDraw : FnScope nDraw ["_law_state_here", "_law_limit"] (defScope sDraw) := ⟨rfl, rfl, rfl, by decide +kernel, rfl, by decide +kernel, by decide +kernel⟩
def spDraw : Sp := fun vs H Q _ => ∃ q pl, ∃ n : Nat, vs = [.ref q, .int (n : Int)] ∧ RSt pl H q ∧ 1 ≤ n ∧ n < 1000000 ∧ ∀ (H' : Hp) (d : Nat), SB q H H' → RSt pl H' q → d < n → Q (.int (d : Int)) H'
section
variable {P : Program} {w : World} {K : PySem.W.Frag} {mg : Str → Option Value} {base : Heap}
theorem ok_lst {f : Addr} {fd : FuncData} {k : Nat} (F : Fun K "_law_state" "_law_state" sLst f fd) (mLi : mg "list" = none) : FnOk P w K mg base CX0 (k + 1) f fd ["_law_script"] (spLst K) := by
  refine F.ok scLst (fun vs H Q E h => ?_) (fun cdv A outer s0 H vs Q E hr h => ?_)
  · obtain ⟨p, ns, rfl, _⟩ := h
    rfl
  · obtain ⟨p, ns, rfl, hp, hn, q⟩ := h
    refine ⟨_, pss_one (ps_ret (pe_lst (pa_cons (pe_callTy call_list_of (by rfl) mLi (by decide +kernel) (pa_cons (pv 0) pa_nil)) (pa_cons pe_int (pa_cons pe_int (pa_cons pe_int (pa_cons pe_bl (pa_cons pe_int pa_nil)))))))), ?_⟩
    refine ⟨_, rfl, p, _, rfl, .inl hp, fun pl npl => ⟨Nat.le_of_ble_eq_true rfl, fun q1 nq1 => ?_⟩⟩
    have s1 := same_upd (o := .lst (ns.map V.int)) npl
    refine q _ q1 pl (s1.trans (same_upd nq1)) (s1.free nq1) npl ⟨ns, 0, 0, 0, false, upd_same, ?_, ?_, hn⟩
    · exact ne_of_none upd_same nq1
    · exact same_upd nq1 _ _ upd_same
theorem ok_draw {f : Addr} {fd : FuncData} {k : Nat} (F : Fun K "_law_draw" "_law_draw" sDraw f fd) (mL : mg "len" = none) (mI : mg "int" = none) : FnOk P w K mg base CX0 (k + 1) f fd ["_law_state_here", "_law_limit"] spDraw := by
  refine F.ok scDraw (fun vs H Q E h => ?_) (fun cdv A outer s0 H vs Q E hr h => ?_)
  · obtain ⟨q, pl, n, rfl, _⟩ := h
    rfl
  · obtain ⟨q, pl, n, rfl, ⟨ns, i, c, l, b, hq, npl, hpl, hns⟩, h1, h2, k1⟩ := h
    have hu := hu_of hr
    have nd := scDraw.nd
    refine ⟨_, pss_cons (ps_cut (ps_if (pt_cmp (pc_eqI (pe_ix ix_list (pv 0) pe_int (fun _ _ => rfl)) pe_int))
        (pss_cons (ps_if (pt_cmp (pc_ge (pe_ix ix_list (pv 0) pe_int (fun _ _ => rfl)) (pe_callB call_len_seq (by rfl) mL (by decide +kernel) (pa_cons (pe_ix ix_list (pv 0) pe_int (fun _ _ => rfl)) pa_nil)))) (pss_one (ps_ret pe_int)) pss_nil)
        (pss_cons (ps_set (i := 2) nd rfl (.inl rfl) (pe_ix ix_list (pe_ix ix_list (pv 0) pe_int (fun _ _ => rfl)) (pe_ix ix_list (pv 0) pe_int (fun _ _ => rfl)) (fun _ _ => rfl)))
        (pss_cons (ps_cut (ps_if (pt_cmp (pc_lt (pv 2) pe_int)) (pss_one (ps_set (i := 2) nd rfl (.inl rfl) (pe_op op_sub (pe_un un_neg pe_int) (pv 2)))) pss_nil))
        (pss_cons (ps_asg (pe_add (pe_ix ix_list (pv 0) pe_int (fun _ _ => rfl)) pe_int) (pg_sub (pv 0) pe_int set_list))
        (pss_cons (ps_asg (pv 2) (pg_sub (pv 0) pe_int set_list))
        (pss_cons (ps_asg (pe_cmp (pc_ge (pv 2) (pe_op op_pow pe_int pe_int))) (pg_sub (pv 0) pe_int set_list))
        (pss_cons (ps_asg pe_int (pg_sub (pv 0) pe_int set_list))
        (pss_one (ps_if (pt_val (pe_ix ix_list (pv 0) pe_int (fun _ _ => rfl))) (pss_one (ps_asg pe_int (pg_sub (pv 0) pe_int set_list))) pss_nil))))))))) pss_nil))
      (pss_cons (ps_asg (pe_op op_sub (pe_ix ix_list (pv 0) pe_int (fun _ _ => rfl)) pe_int) (pg_sub (pv 0) pe_int set_list))
      (pss_cons (ps_if (pt_val (pe_ix ix_list (pv 0) pe_int (fun _ _ => rfl)))
        (pss_cons (ps_set (i := 3) nd rfl (.inl rfl) (pe_op op_mod (pe_callTy call_int1 (by rfl) mI (by decide +kernel) (pa_cons (pe_ix ix_list (pv 0) pe_int (fun _ _ => rfl)) pa_nil)) (pv 1)))
        (pss_cons (ps_asg (pe_op op_fdiv (pe_ix ix_list (pv 0) pe_int (fun _ _ => rfl)) (pv 1)) (pg_sub (pv 0) pe_int set_list))
        (pss_cons (ps_cut (ps_if (pt_cmp (pc_eqI (pe_ix ix_list (pv 0) pe_int (fun _ _ => rfl)) pe_int)) (pss_one (ps_asg pe_int (pg_sub (pv 0) pe_int set_list))) pss_nil))
        (pss_one (ps_ret (pv 3)))))) pss_nil)
      (pss_cons (ps_set (i := 4) nd rfl (.inl rfl) (pe_op op_mod (pe_callTy call_int1 (by rfl) mI (by decide +kernel) (pa_cons (pe_add (pe_add (pe_op op_mul (pe_ix ix_list (pv 0) pe_int (fun _ _ => rfl)) pe_int) (pe_op op_mul (pe_ix ix_list (pv 0) pe_int (fun _ _ => rfl)) pe_int)) pe_int) pa_nil)) pe_int))
      (pss_cons (ps_set (i := 4) nd rfl (.inl rfl) (pe_op op_mod (pe_callTy call_int1 (by rfl) mI (by decide +kernel) (pa_cons (pe_add (pe_add (pe_op op_mul (pv 4) (pv 4)) (pe_op op_mul (pe_ix ix_list (pv 0) pe_int (fun _ _ => rfl)) pe_int)) (pe_ix ix_list (pv 0) pe_int (fun _ _ => rfl))) pa_nil)) pe_int))
      (pss_one (ps_ret (pe_op op_mod (pe_callTy call_int1 (by rfl) mI (by decide +kernel) (pa_cons (pv 4) pa_nil)) (pv 1)))))))), ?_⟩
    have cp : CPow 10 18 := ⟨by decide, by decide, by decide⟩
    -- behind the first test there is something left
    refine ⟨fun σ' H' => ∃ y2 i c l b, σ' = [some (.ref q), some (.int (n : Int)), y2, none, none] ∧ SB q H H' ∧ H' q = some (.lst (stL pl i c (l + 1) b)),
      ⟨.ref q, rfl, q, _, _, _, rfl, rfl, SqL.of hq, atI_nat (j := 3) rfl, _, _, rfl, rfl, _, rfl, ite2 (fun e => ?_) (fun e => ?_)⟩, ?_⟩
    · refine ⟨.ref q, rfl, q, _, _, _, rfl, rfl, SqL.of hq, atI_nat (j := 1) rfl, .ref q, rfl, q, _, _, _, rfl, rfl, SqL.of hq, atI_nat (j := 0) rfl, pl, _, rfl, .inl (SqL.of hpl), _, _, rfl, rfl, _, rfl, ite2 (fun e2 => ?_) (fun e2 => ?_)⟩
      · exact k1 H 0 SB.rfl ⟨ns, i, c, l, b, hq, npl, hpl, hns⟩ (by omega)
      have e2 : ¬ (((ns.map V.int).length : Nat) : Int) ≤ (i : Int) := fun z => e2 (decide_eq_true z)
      have hi : i < ns.length := by rw [List.length_map] at e2; omega
      have hz : (ns.map V.int)[i]? = some (.int ns[i]) := by rw [List.getElem?_map, List.getElem?_eq_getElem hi]; rfl
      refine ⟨.ref q, rfl, q, _, _, _, rfl, rfl, SqL.of hq, atI_nat (j := 0) rfl, .ref q, rfl, q, _, _, _, rfl, rfl, SqL.of hq, atI_nat (j := 1) rfl, pl, _, _, _, rfl, rfl, SqL.of hpl, atI_nat hz, ?_⟩
      refine ⟨fun σ' H' => H' = H ∧ ∃ c' : Nat, σ' = [some (.ref q), some (.int (n : Int)), some (.int (c' : Int)), none, none], ⟨_, rfl, _, _, rfl, rfl, _, rfl, ite2 (fun e3 => ?_) (fun e3 => ?_)⟩, ?_⟩
      · have e3 : ns[i] < 0 := of_decide_eq_true e3
        refine ⟨_, rfl, _, rfl, _, _, rfl, rfl, rfl, (-1 - ns[i]).toNat, ?_⟩
        have : (((-1 - ns[i]).toNat : Nat) : Int) = -1 - ns[i] := by omega
        rw [this]
        rfl
      · have e3 : ¬ ns[i] < 0 := fun z => e3 (decide_eq_true z)
        refine ⟨rfl, ns[i].toNat, ?_⟩
        have : ((ns[i].toNat : Nat) : Int) = ns[i] := by omega
        rw [this]
        rfl
      · rintro σ' H' ⟨rfl, c', rfl⟩
        refine ⟨.ref q, rfl, q, _, _, _, rfl, rfl, SqL.of hq, atI_nat (j := 1) rfl, _, _, rfl, rfl, .ref q, rfl, q, _, _, 1, rfl, rfl, hq, rfl, ?_⟩
        refine ⟨_, rfl, .ref q, rfl, q, _, _, 2, rfl, rfl, upd_same, rfl, ?_⟩
        refine ⟨_, rfl, _, _, rfl, rfl, cp, _, _, rfl, rfl, .ref q, rfl, q, _, _, 4, rfl, rfl, upd_same, rfl, ?_⟩
        refine ⟨.ref q, rfl, q, _, _, 3, rfl, rfl, upd_same, rfl, ?_⟩
        refine ⟨.ref q, rfl, q, _, _, .bl (decide ((10 : Int) ^ (18 : Int).toNat ≤ (c' : Int))), rfl, rfl, SqL.of upd_same, atI_nat (j := 4) rfl, _, rfl, ite2 (fun e4 => ?_) (fun e4 => ?_)⟩
        · refine ⟨.ref q, rfl, q, _, _, 3, rfl, rfl, upd_same, rfl, ?_⟩
          exact ⟨_, i + 1, c', 59, _, rfl, (((((SB.rfl.upd).upd).upd).upd).upd), by rw [upd_same]; rfl⟩
        · exact ⟨_, i + 1, c', 5, _, rfl, ((((SB.rfl.upd).upd).upd).upd), by rw [upd_same]; rfl⟩
    · have e : ¬ (l : Int) = 0 := fun z => e (decide_eq_true z)
      have el : l - 1 + 1 = l := by omega
      exact ⟨none, i, c, l - 1, b, rfl, SB.rfl, by rw [el]; exact hq⟩
    rintro σ' H' ⟨y2, i, c, l, b, rfl, sb, hq⟩
    have hpl' : ∀ {H2 : Hp}, SB q H H2 → H2 pl = some (.lst (ns.map V.int)) := fun s => s _ _ npl hpl
    have ecl : (V.int (((l + 1 : Nat) : Int) - 1)) = V.int (l : Int) := by
      have : ((l + 1 : Nat) : Int) - 1 = (l : Int) := by omega
      rw [this]
    refine ⟨.ref q, rfl, q, _, _, _, rfl, rfl, SqL.of hq, atI_nat (j := 3) rfl, _, _, rfl, rfl, .ref q, rfl, q, _, _, 3, rfl, rfl, hq, rfl, ?_⟩
    dsimp only
    rw [ecl]
    have hq2 : (upd H' q (.lst ((stL pl i c (l + 1) b).set 3 (.int (l : Int))))) q = some (.lst (stL pl i c l b)) := by rw [upd_same]; rfl
    have sb2 : SB q H (upd H' q (.lst ((stL pl i c (l + 1) b).set 3 (.int (l : Int))))) := sb.upd
    obtain ⟨H2, eH2⟩ : ∃ H2, H2 = upd H' q (.lst ((stL pl i c (l + 1) b).set 3 (.int (l : Int)))) := ⟨_, rfl⟩
    rw [← eH2] at hq2 sb2 ⊢
    have hn0 : (0 : Int) < (n : Int) := by omega
    have modN : ∀ z : Int, ∃ d : Nat, z % (n : Int) = (d : Int) ∧ d < n := fun z => by
      have a1 := Int.emod_nonneg z (show (n : Int) ≠ 0 by omega)
      have a2 := Int.emod_lt_of_pos z hn0
      exact ⟨(z % (n : Int)).toNat, by omega, by omega⟩
    refine ⟨.ref q, rfl, q, _, _, _, rfl, rfl, SqL.of hq2, atI_nat (j := 4) rfl, _, rfl, ite2 (fun e => ?_) (fun e => ?_)⟩
    · obtain ⟨d, ed, hd⟩ := modN (c : Int)
      refine ⟨.ref q, rfl, q, _, _, _, rfl, rfl, SqL.of hq2, atI_nat (j := 2) rfl, .inl ⟨_, rfl, _, rfl, _, _, rfl, rfl, hn0, ?_⟩⟩
      dsimp only
      rw [ed]
      have ecd : (V.int ((c : Int) / (n : Int))) = V.int ((c / n : Nat) : Int) := by rw [Int.natCast_ediv]
      refine ⟨.ref q, rfl, q, _, _, _, rfl, rfl, SqL.of hq2, atI_nat (j := 2) rfl, _, rfl, _, _, rfl, rfl, ⟨hn0, by omega⟩, .ref q, rfl, q, _, _, 2, rfl, rfl, hq2, rfl, ?_⟩
      dsimp only
      rw [ecd]
      have hq3 : (upd H2 q (.lst ((stL pl i c l b).set 2 (.int ((c / n : Nat) : Int))))) q = some (.lst (stL pl i (c / n) l b)) := by rw [upd_same]; rfl
      have sb3 : SB q H (upd H2 q (.lst ((stL pl i c l b).set 2 (.int ((c / n : Nat) : Int))))) := sb2.upd
      obtain ⟨H3, eH3⟩ : ∃ H3, H3 = upd H2 q (.lst ((stL pl i c l b).set 2 (.int ((c / n : Nat) : Int)))) := ⟨_, rfl⟩
      rw [← eH3] at hq3 sb3 ⊢
      refine ⟨fun σ' H4 => σ' = [some (.ref q), some (.int (n : Int)), y2, some (.int (d : Int)), none] ∧ SB q H H4 ∧ RSt pl H4 q, ⟨.ref q, rfl, q, _, _, _, rfl, rfl, SqL.of hq3, atI_nat (j := 2) rfl, _, _, rfl, rfl, _, rfl, ite2 (fun e4 => ?_) (fun e4 => ?_)⟩, ?_⟩
      · refine ⟨.ref q, rfl, q, _, _, 3, rfl, rfl, hq3, rfl, rfl, sb3.upd, ns, i, c / n, 0, b, by rw [upd_same]; rfl, npl, hpl' sb3.upd, hns⟩
      · exact ⟨rfl, sb3, ns, i, c / n, l, b, hq3, npl, hpl' sb3, hns⟩
      · rintro σ' H4 ⟨rfl, sb4, r4⟩
        exact ⟨_, rfl, k1 H4 d sb4 r4 hd⟩
    · have r2 : RSt pl H2 q := ⟨ns, i, c, l, b, hq2, npl, hpl' sb2, hns⟩
      have p1 : (0 : Int) < 2147483647 := by decide
      have p2 : (0 : Int) < 1000003 := by decide
      have cm : ∀ x : Int, CMul x 48271 := fun x => .inr ⟨by decide, by decide⟩
      have cm2 : ∀ x : Int, CMul x 69621 := fun x => .inr ⟨by decide, by decide⟩
      have cm3 : ∀ x : Int, CMul x 31 := fun x => .inr ⟨by decide, by decide⟩
      refine ⟨.ref q, rfl, q, _, _, _, rfl, rfl, SqL.of hq2, atI_nat (j := 2) rfl, _, _, rfl, rfl, cm _, .ref q, rfl, q, _, _, _, rfl, rfl, SqL.of hq2, atI_nat (j := 3) rfl, _, _, rfl, rfl, cm2 _, _, _, rfl, rfl, _, _, rfl, rfl, .inl ⟨_, rfl, _, _, rfl, rfl, p1, ?_⟩⟩
      obtain ⟨m, em⟩ : ∃ m : Int, m = ((c : Int) * 48271 + (l : Int) * 69621 + 7) % 2147483647 := ⟨_, rfl⟩
      dsimp only
      rw [← em]
      have b1 : 0 ≤ m := by rw [em]; exact Int.emod_nonneg _ (by decide)
      have b2 : m < 2147483647 := by rw [em]; exact Int.emod_lt_of_pos _ (by decide)
      have cm4 : CMul m m := .inl ⟨by omega, by omega⟩
      refine ⟨_, rfl, _, rfl, _, _, rfl, rfl, cm4, .ref q, rfl, q, _, _, _, rfl, rfl, SqL.of hq2, atI_nat (j := 2) rfl, _, _, rfl, rfl, cm3 _, _, _, rfl, rfl, .ref q, rfl, q, _, _, _, rfl, rfl, SqL.of hq2, atI_nat (j := 3) rfl, _, _, rfl, rfl, .inl ⟨_, rfl, _, _, rfl, rfl, p2, ?_⟩⟩
      obtain ⟨m2, em2⟩ : ∃ m2 : Int, m2 = (m * m + (c : Int) * 31 + (l : Int)) % 1000003 := ⟨_, rfl⟩
      dsimp only
      rw [← em2]
      obtain ⟨d, ed, hd⟩ := modN m2
      refine ⟨_, rfl, .inl ⟨_, rfl, _, rfl, _, _, rfl, rfl, hn0, ?_⟩⟩
      dsimp only
      rw [ed]
      exact k1 H2 d sb2 r2 hd
end
end PL
namespace PL
open PySem PySem.Spec PyProof.Rows L2
section
variable {X : Cx}
/-- a text of three signs, four times -/
theorem op_four : OpR X (binaryOp .Mult) (fun x y H Q => ∃ z, x = .str z ∧ y = .int 4 ∧ z.length = 3 ∧ ∀ u : Str, u.length = 12 → Q (.str u) H) := by
  intro pins s σ H x y v u Q I rx ry ⟨z, ex, ey, hz, q⟩
  subst ex ey
  obtain ⟨t, rfl⟩ := (show ∃ t, v = Value.str z t from rx)
  obtain ⟨t', rfl⟩ := (show ∃ t', u = Value.int 4 t' from ry)
  have e1 : ((4 : Int) == 1 || z.length == 0) = false := by rw [hz]; rfl
  refine PySem.P.mul_str (by decide) (fun _ _ => by rw [hz]; decide) (fun _ _ => by rw [hz]; decide +kernel) ?_
  rw [if_neg (by decide), if_neg (by rw [e1]; exact Bool.false_ne_true)]
  have hl : (⟨(List.replicate (4 : Int).toNat z.cps).foldl (· ++ ·) #[]⟩ : Str).length = 12 := by
    have h3 : z.cps.size = 3 := hz
    show ((List.replicate 4 z.cps).foldl (· ++ ·) #[]).size = 12
    simp [List.replicate, h3]
  exact ⟨by rw [hl]; decide +kernel, ⟨.str ⟨(List.replicate (4 : Int).toNat z.cps).foldl (· ++ ·) #[]⟩, H, I.tok _, ⟨_, rfl⟩, q _ hl⟩⟩
end
theorem emodN (z : Int) {n : Nat} (hn : 0 < n) : ∃ d : Nat, z % (n : Int) = (d : Int) ∧ d < n := by
  have a1 := Int.emod_nonneg z (show (n : Int) ≠ 0 by omega)
  have a2 := Int.emod_lt_of_pos z (show (0 : Int) < n by omega)
  exact ⟨(z % (n : Int)).toNat, by omega, by omega⟩
theorem str_app_len (a b : Str) : (a ++ b).length = a.length + b.length := Array.size_append
theorem pickS (z : Str) {m : Nat} (hm : 0 < m) (hz : m ≤ z.length) (x : Int) : ∃ c, atI z.cps.toList (x % (m : Int)) = some c := by
  obtain ⟨d, e, hd⟩ := emodN x hm
  have : d < z.cps.toList.length := by
    have h : z.cps.toList.length = z.length := Array.length_toList
    omega
  rw [e]
  exact ⟨_, atI_nat (List.getElem?_eq_getElem this)⟩
abbrev sNam : Stmt := topS 37
abbrev nNam : List Str := ["_law_state_here", "_law_first", "_law_other", "_law_number", "_law_name_here", "_law_tail"]
theorem scNam : FnScope nNam ["_law_state_here"] (defScope sNam) := ⟨rfl, rfl, rfl, by decide +kernel, rfl, by decide +kernel, by decide +kernel⟩
def spNam : Sp := fun vs H Q _ => ∃ q pl, vs = [.ref q] ∧ RSt pl H q ∧ ∀ (H' : Hp) (z : Str), SB q H H' → RSt pl H' q → z.length ≤ 100 → Q (.str z) H'
section
variable {P : Program} {w : World} {K : PySem.W.Frag} {mg : Str → Option Value} {base : Heap}
theorem ok_nam {f fD : Addr} {fd fdD : FuncData} {k : Nat} (F : Fun K "_law_name" "_law_name" sNam f fd)
    (GD : FnOk P w K mg base CX0 k fD fdD ["_law_state_here", "_law_limit"] spDraw) (kD : PySem.W.keepIn K (.ref fD) = true) (bD : Binds K fdD ["_law_state_here", "_law_limit"] []) (gD : mg "_law_draw" = some (.ref fD)) (mI : mg "int" = none) : FnOk P w K mg base CX0 (k + 1) f fd ["_law_state_here"] spNam := by
  refine F.ok scNam (fun vs H Q E h => ?_) (fun cdv A outer s0 H vs Q E hr h => ?_)
  · obtain ⟨q, pl, rfl, _⟩ := h
    rfl
  · obtain ⟨q, pl, rfl, hst, q1⟩ := h
    have nd := scNam.nd
    refine ⟨_, pss_cons (ps_set (i := 1) nd rfl (.inl rfl) pe_str)
      (pss_cons (ps_set (i := 2) nd rfl (.inl rfl) (pe_op op_add_str (pv 1) pe_str))
      (pss_cons (ps_set (i := 3) nd rfl (.inl rfl) (pe_call GD hr (by rfl) gD kD bD .nil pass0 (pa_cons (pv 0) (pa_cons pe_int pa_nil))))
      (pss_cons (ps_set (i := 4) nd rfl (.inl rfl) (pe_ix ix_str (pv 1) (pe_op op_mod (pe_callTy call_int1 (by rfl) mI (by decide +kernel) (pa_cons (pe_op op_fdiv (pv 3) pe_int) pa_nil)) pe_int) (fun _ _ => rfl)))
      (pss_cons (ps_set (i := 5) nd rfl (.inl rfl) (pe_op op_add_str (pe_op op_add_str (pe_ix ix_str (pv 2) (pe_op op_mod (pe_callTy call_int1 (by rfl) mI (by decide +kernel) (pa_cons (pe_op op_fdiv (pv 3) pe_int) pa_nil)) pe_int) (fun _ _ => rfl))
          (pe_ix ix_str (pv 2) (pe_op op_mod (pe_callTy call_int1 (by rfl) mI (by decide +kernel) (pa_cons (pe_op op_fdiv (pv 3) pe_int) pa_nil)) pe_int) (fun _ _ => rfl)))
          (pe_ix ix_str (pv 2) (pe_op op_mod (pe_callTy call_int1 (by rfl) mI (by decide +kernel) (pa_cons (pv 3) pa_nil)) pe_int) (fun _ _ => rfl))))
      (pss_cons (ps_cut (ps_if (pt_cmp (pc_eqI (pe_call GD hr (by rfl) gD kD bD .nil pass0 (pa_cons (pv 0) (pa_cons pe_int pa_nil))) pe_int))
        (pss_one (ps_set (i := 4) nd rfl (.inl rfl) (pe_slice sl_str (pe_op op_add_str (pv 4) (pe_op op_four (pv 5) pe_int)) po_none (po_some (pe_add pe_int (pe_call GD hr (by rfl) gD kD bD .nil pass0 (pa_cons (pv 0) (pa_cons pe_int pa_nil))))))))
        (pss_one (ps_set (i := 4) nd rfl (.inl rfl) (pe_op op_add_str (pv 4) (pe_slice sl_str (pv 5) po_none (po_some (pe_op op_mod (pe_callTy call_int1 (by rfl) mI (by decide +kernel) (pa_cons (pv 3) pa_nil)) pe_int))))))))
      (pss_cons (ps_if (pt_cmpR op_in_seq (pv 4) (pe_lst (pa_cons pe_str (pa_cons pe_str (pa_cons pe_str (pa_cons pe_str (pa_cons pe_str (pa_cons pe_str pa_nil))))))) (by rfl)) (pss_one (ps_ret (pe_op op_add_str (pv 4) pe_str))) pss_nil)
      (pss_one (ps_ret (pv 4))))))))), ?_⟩
    let z1 : Str := "abcdefghijklmnopqrstuvwxyz"
    have l1 : z1.length = 26 := by decide +kernel
    have l2 : (z1 ++ ("0123456789" : Str)).length = 36 := by decide +kernel
    have one : ∀ c : Nat, (⟨#[c]⟩ : Str).length = 1 := fun _ => rfl
    have sz := sizeLine_eq
    refine ⟨_, rfl, z1, _, rfl, rfl, by rw [sz]; decide +kernel, ?_⟩
    refine ⟨.ref q, rfl, q, pl, 134784, rfl, hst, by decide, by decide, fun H1 n s1 r1 hn => ?_⟩
    obtain ⟨c1, hc1⟩ := pickS z1 (m := 26) (by decide) (by omega) ((n : Int) / 4)
    refine ⟨_, rfl, _, rfl, _, _, rfl, rfl, ⟨by decide, by decide⟩, .inl ⟨_, rfl, _, _, rfl, rfl, (by decide : (0 : Int) < 26), z1, _, c1, rfl, rfl, by rw [sz, l1]; decide, hc1, ?_⟩⟩
    obtain ⟨c2, hc2⟩ := pickS (z1 ++ ("0123456789" : Str)) (m := 36) (by decide) (by omega) ((n : Int) / 104)
    obtain ⟨c3, hc3⟩ := pickS (z1 ++ ("0123456789" : Str)) (m := 36) (by decide) (by omega) ((n : Int) / 3744)
    obtain ⟨c4, hc4⟩ := pickS (z1 ++ ("0123456789" : Str)) (m := 35) (by decide) (by omega) (n : Int)
    refine ⟨_, rfl, _, rfl, _, _, rfl, rfl, ⟨by decide, by decide⟩, .inl ⟨_, rfl, _, _, rfl, rfl, (by decide : (0 : Int) < 36), _, _, c2, rfl, rfl, by rw [sz, l2]; decide, hc2, ?_⟩⟩
    refine ⟨_, rfl, _, rfl, _, _, rfl, rfl, ⟨by decide, by decide⟩, .inl ⟨_, rfl, _, _, rfl, rfl, (by decide : (0 : Int) < 36), _, _, c3, rfl, rfl, by rw [sz, l2]; decide, hc3, ?_⟩⟩
    refine ⟨_, _, rfl, rfl, by rw [sz, one, one]; decide, ?_⟩
    refine ⟨_, rfl, _, rfl, .inl ⟨_, rfl, _, _, rfl, rfl, (by decide : (0 : Int) < 35), _, _, c4, rfl, rfl, by rw [sz, l2]; decide, hc4, ?_⟩⟩
    refine ⟨_, _, rfl, rfl, by rw [sz, str_app_len, one, one, one]; decide, ?_⟩
    have lt : ((⟨#[c2]⟩ ++ ⟨#[c3]⟩ : Str) ++ (⟨#[c4]⟩ : Str)).length = 3 := by rw [str_app_len, str_app_len, one, one, one]
    obtain ⟨tl, etl⟩ : ∃ tl : Str, tl = (⟨#[c2]⟩ ++ ⟨#[c3]⟩ : Str) ++ (⟨#[c4]⟩ : Str) := ⟨_, rfl⟩
    rw [← etl] at lt
    rw [← etl]
    refine ⟨fun σ' H' => ∃ z : Str, σ' = [some (.ref q), some (.str z1), some (.str (z1 ++ ("0123456789" : Str))), some (.int (n : Int)), some (.str z), some (.str tl)] ∧ SB q H H' ∧ RSt pl H' q ∧ z.length ≤ 50, ⟨.ref q, rfl, q, pl, 9, rfl, r1, by decide, by decide, fun H2 d s2 r2 hd => ?_⟩, ?_⟩
    · refine ⟨_, _, rfl, rfl, _, rfl, ite2 (fun e => ?_) (fun e => ?_)⟩
      · refine ⟨_, rfl, _, rfl, tl, rfl, rfl, lt, fun u hu => ?_⟩
        refine ⟨_, _, rfl, rfl, by rw [sz, one, hu]; decide, ?_⟩
        refine ⟨.ref q, rfl, q, pl, 9, rfl, r2, by decide, by decide, fun H3 d3 s3 r3 hd3 => ?_⟩
        refine ⟨_, _, rfl, rfl, _, rfl, _, rfl, by rw [sz, str_app_len, one, hu]; decide, ?_⟩
        refine ⟨_, rfl, (s1.trans s2).trans s3, r3, ?_⟩
        have := cutS_length (⟨#[c1]⟩ ++ u) none (some (4 + (d3 : Int)))
        rw [str_app_len, one, hu] at this
        omega
      · refine ⟨_, rfl, _, rfl, _, rfl, .inl ⟨_, rfl, _, _, rfl, rfl, (by decide : (0 : Int) < 4), _, rfl, tl, rfl, by rw [sz, lt]; decide, ?_⟩⟩
        have hcl := cutS_length tl none (some ((n : Int) % 4))
        refine ⟨_, _, rfl, rfl, by rw [sz, one]; omega, ?_⟩
        refine ⟨_, rfl, s1.trans s2, r2, ?_⟩
        rw [str_app_len, one]
        omega
    · rintro σ' H' ⟨z, rfl, sF, rF, hz⟩
      refine ⟨_, rfl, Nat.le_of_ble_eq_true rfl, fun p np => ?_⟩
      obtain ⟨a1, a2⟩ := rF.apart np
      have rG : RSt pl (upd H' p (.lst [.str "pact", .str "end", .str "choice", .str "both", .str "loop", .str "use"])) q := rF.re a1 a2
      have sG : SB q H (upd H' p (.lst [.str "pact", .str "end", .str "choice", .str "both", .str "loop", .str "use"])) := sF.re (sF.free rF np)
      refine ⟨p, _, rfl, .inl (SqL.of upd_same), rfl, rfl, _, rfl, ite2 (fun e => ?_) (fun e => ?_)⟩
      · refine ⟨_, rfl, _, _, rfl, rfl, by rw [sz]; show z.length + 1 ≤ _; omega, ?_⟩
        refine q1 _ _ sG rG ?_
        rw [str_app_len]
        show z.length + 1 ≤ 100
        omega
      · exact ⟨_, rfl, q1 _ _ sG rG (by omega)⟩
end
end PL
namespace PL
open PySem PySem.Spec PyProof.Rows L2
def numS (j : Nat) : Str := toString (j : Int)
def Tag (i : Nat) (c : Str) : Prop := ∃ x : Str, c = (x ++ ("q" : Str)) ++ numS i
theorem numS_q : ∀ j < 20, ((numS j).cps.toList.all fun x => decide (x ≠ 113)) = true := by decide +kernel
theorem numS_inj : ∀ i < 20, ∀ j < 20, (numS i).cps.toList.reverse = (numS j).cps.toList.reverse → i = j := by decide +kernel
theorem numS_len : ∀ j < 20, (numS j).length ≤ 2 := by decide +kernel
def tagR (s : Str) : List Nat := s.cps.toList.reverse.takeWhile fun x => decide (x ≠ 113)
theorem takeWhile_all {p : Nat → Bool} : ∀ {l m : List Nat}, l.all p = true → (l ++ m).takeWhile p = l ++ m.takeWhile p
  | [], m, _ => rfl
  | x :: l, m, h => by
    rw [List.all_cons, Bool.and_eq_true] at h
    rw [List.cons_append, List.takeWhile_cons, if_pos h.1, takeWhile_all h.2]
    rfl
theorem tagR_eq {i : Nat} (hi : i < 20) {c : Str} (h : Tag i c) : tagR c = (numS i).cps.toList.reverse := by
  obtain ⟨x, rfl⟩ := h
  unfold tagR
  have e : ((x ++ ("q" : Str)) ++ numS i).cps.toList = (x.cps.toList ++ [113]) ++ (numS i).cps.toList := by
    show ((x.cps ++ ("q" : Str).cps) ++ (numS i).cps).toList = _
    rw [Array.toList_append, Array.toList_append]
    rfl
  rw [e, List.reverse_append, List.reverse_append]
  have ha : ((numS i).cps.toList.reverse.all fun x => decide (x ≠ 113)) = true := by rw [List.all_reverse]; exact numS_q i hi
  rw [takeWhile_all ha]
  show _ ++ (113 :: x.cps.toList.reverse).takeWhile _ = _
  rw [List.takeWhile_cons, if_neg (by decide), List.append_nil]
theorem Tag.uniq {i j : Nat} (hi : i < 20) (hj : j < 20) {c : Str} (h : Tag i c) (h' : Tag j c) : i = j := numS_inj i hi j hj (by rw [← tagR_eq hi h, ← tagR_eq hj h'])
theorem inV_str (z : Str) (zs : List Str) : inV (.str z) (zs.map V.str) = true ↔ z ∈ zs := by
  unfold inV
  rw [List.any_map, List.any_eq_true]
  constructor
  · rintro ⟨x, hx, e⟩
    have : x = z := by simpa [eqV] using e
    exact this ▸ hx
  · intro h
    exact ⟨z, h, by simp [eqV]⟩
abbrev sNms : Stmt := topS 38
abbrev nNms : List Str := ["_law_state_here", "_law_count", "_law_taken", "_law_names_here", "_law_k", "_law_name_here", "_law_j"]
theorem scNms : FnScope nNms ["_law_state_here", "_law_count", "_law_taken"] (defScope sNms) := ⟨rfl, rfl, rfl, by decide +kernel, rfl, by decide +kernel, by decide +kernel⟩
def spNms : Sp := fun vs H Q _ => ∃ (q pl t : Addr), ∃ n : Nat, vs = [.ref q, .int (n : Int), .ref t] ∧ RSt pl H q ∧ n ≤ 6 ∧ H t = some (.lst []) ∧ t ≠ q ∧
  ∀ (H' : Hp) (p : Addr) (zs : List Str), SB q H H' → RSt pl H' q → H p = none → H' p = some (.lst (zs.map V.str)) → zs.length = n → zs.Nodup → Q (.ref p) H'
section
variable {P : Program} {w : World} {K : PySem.W.Frag} {mg : Str → Option Value} {base : Heap}
theorem ok_nms {f fN : Addr} {fd fdN : FuncData} {k : Nat} (F : Fun K "_law_names" "_law_names" sNms f fd)
    (GN : FnOk P w K mg base CX0 k fN fdN ["_law_state_here"] spNam) (kN : PySem.W.keepIn K (.ref fN) = true) (bN : Binds K fdN ["_law_state_here"] []) (gN : mg "_law_name" = some (.ref fN)) (mR : mg "range" = none) (mSt : mg "str" = none) : FnOk P w K mg base CX0 (k + 1) f fd ["_law_state_here", "_law_count", "_law_taken"] spNms := by
  refine F.ok scNms (fun vs H Q E h => ?_) (fun cdv A outer s0 H vs Q E hr h => ?_)
  · obtain ⟨q, pl, t, n, rfl, _⟩ := h
    rfl
  · obtain ⟨q, pl, t, n, rfl, hst, hn6, ht, ntq, q1⟩ := h
    have nd := scNms.nd
    refine ⟨_, pss_cons (ps_set (i := 3) nd rfl (.inl rfl) (pe_lst pa_nil))
      (pss_cons (ps_for PassesOwn.never rfl (pi_range1 (by rfl) mR (pa_cons (pv 1) pa_nil)) (pg_name (i := 4) nd rfl (.inl rfl))
        (pss_cons (ps_set (i := 5) nd rfl (.inl rfl) (pe_call GN hr (by rfl) gN kN bN .nil pass0 (pa_cons (pv 0) pa_nil)))
        (pss_cons (ps_for PassesOwn.never rfl (pi_range1 (by rfl) mR (pa_cons pe_int pa_nil)) (pg_name (i := 6) nd rfl (.inl rfl))
          (pss_one (ps_if (PW.pt (pw_or (pt_cmpR op_in_seq (pv 5) (pv 3) (by rfl)) (pw_or1 (pt_cmpR op_in_seq (pv 5) (pv 2) (by rfl))))) (pss_one (ps_set (i := 5) nd rfl (.inl rfl) (pe_op op_add_str (pe_op op_add_str (pe_slice sl_str (pv 5) po_none (po_some pe_int)) pe_str) (pe_callTy call_str_int (by rfl) mSt (by decide +kernel) (pa_cons (pv 6) pa_nil))))) pss_nil)))
        (pss_one (ps_expr (pe_bm PySem.F.plainAttrs_list PySem.F.slot_list_append PySem.F.type_list_append mt_append (pv 3) (pa_cons (pv 5) pa_nil)))))))
      (pss_one (ps_ret (pv 3)))), ?_⟩
    have sz := sizeLine_eq
    refine ⟨Nat.le_of_ble_eq_true rfl, fun dn ndn => ?_⟩
    obtain ⟨a1, a2⟩ := hst.apart ndn
    refine ⟨_, rfl, (n : Int), rfl, by omega, by omega, for_it walk_rg (fun k σ H7 => ∃ zs y4 y5 y6, σ = [some (.ref q), some (.int (n : Int)), some (.ref t), some (.ref dn), y4, y5, y6] ∧ SB q H H7 ∧ RSt pl H7 q ∧ H7 dn = some (.lst (zs.map V.str)) ∧ zs.length = k ∧ zs.Nodup)
      ⟨[], none, none, none, rfl, SB.rfl.re ndn, hst.re a1 a2, by rw [upd_same]; rfl, rfl, List.nodup_nil⟩ (fun _ _ _ _ _ => trivial) ?_ ?_⟩
    · rintro k yv σ H7 H8 hk ⟨zs, y4, y5, y6, rfl, s7, r7, hdn, hzl, hzn⟩ ⟨rfl, rfl⟩
      have hk : k < n := by omega
      refine ⟨_, rfl, q, pl, rfl, r7, fun H9 z s9 r9 hz => ?_⟩
      have hdn9 : H9 dn = some (.lst (zs.map V.str)) := s9 _ _ a1 hdn
      have htd : H9 t = some (.lst []) := (s7.trans s9) _ _ ntq ht
      refine ⟨20, rfl, by decide, by decide, for_it walk_rg (fun j σ H' => H' = H9 ∧ ∃ (z : Str) (y6 : Option V), σ = [some (.ref q), some (.int (n : Int)), some (.ref t), some (.ref dn), some (.int (k : Int)), some (.str z), y6] ∧ z.length ≤ 100 ∧
          (z ∉ zs ∨ ∃ cs : List Str, j ≤ cs.length + 1 ∧ cs.Nodup ∧ (∀ c ∈ cs, c ∈ zs ∧ ∃ i, i + 1 < j ∧ Tag i c) ∧ (0 < j → Tag (j - 1) z)))
        ⟨rfl, z, _, rfl, hz, .inr ⟨[], by simp, List.nodup_nil, by simp, fun h => absurd h (Nat.lt_irrefl 0)⟩⟩ (fun _ _ _ _ _ => trivial) ?_ ?_⟩
      · rintro j yv σ H' H'' hj ⟨rfl, z, y6, rfl, hz, hc⟩ ⟨rfl, rfl⟩
        have hj : j < 20 := hj
        have lift : z ∈ zs → ∃ cs : List Str, j + 1 ≤ cs.length + 1 ∧ cs.Nodup ∧ (∀ c ∈ cs, c ∈ zs ∧ ∃ i, i + 1 < j + 1 ∧ Tag i c) := by
          intro hin
          rcases hc with hc | ⟨cs, c1, c2, c3, c4⟩
          · exact absurd hin hc
          · by_cases j0 : j = 0
            · exact ⟨[], by simp [j0], List.nodup_nil, by simp⟩
            · refine ⟨cs ++ [z], by rw [List.length_append, List.length_singleton]; omega, List.nodup_append.mpr ⟨c2, by simp, fun a ha b hb e => ?_⟩, fun c hc => ?_⟩
              · have : b = z := by simpa using hb
                subst this
                subst e
                obtain ⟨_, i, hi, ti⟩ := c3 a ha
                have := Tag.uniq (by omega) (by omega) ti (c4 (by omega))
                omega
              · rcases List.mem_append.mp hc with hc | hc
                · obtain ⟨h1, i, h2, h3⟩ := c3 c hc
                  exact ⟨h1, i, by omega, h3⟩
                · have : c = z := by simpa using hc
                  subst this
                  exact ⟨hin, j - 1, by omega, c4 (by omega)⟩
        have put : z ∈ zs → ∃ x : Str, x.length ≤ 100 ∧ True := fun _ => ⟨z, hz, trivial⟩
        have cl := cutS_length z none (some 9)
        have nl := numS_len j hj
        -- the name changed
        have chg : z ∈ zs → ((cutS z none (some 9) ++ ("q" : Str)) ++ numS j).length ≤ 100 ∧ (((cutS z none (some 9) ++ ("q" : Str)) ++ numS j) ∉ zs ∨ ∃ cs : List Str, j + 1 ≤ cs.length + 1 ∧ cs.Nodup ∧ (∀ c ∈ cs, c ∈ zs ∧ ∃ i, i + 1 < j + 1 ∧ Tag i c) ∧ (0 < j + 1 → Tag (j + 1 - 1) ((cutS z none (some 9) ++ ("q" : Str)) ++ numS j))) := by
          intro hin
          obtain ⟨cs, c1, c2, c3⟩ := lift hin
          refine ⟨?_, .inr ⟨cs, c1, c2, c3, fun _ => ⟨_, rfl⟩⟩⟩
          have l9 : (cutS z none (some 9)).length ≤ 9 := by
            show (((z.cps.toList.drop (HT.sIx z.length 0 none)).take (HT.sIx z.length z.length (some 9) - HT.sIx z.length 0 none)).toArray).size ≤ 9
            rw [List.size_toArray, List.length_take]
            have : HT.sIx z.length z.length (some 9) ≤ 9 := by
              unfold HT.sIx
              simp
              try omega
            omega
          rw [str_app_len, str_app_len]
          show (cutS z none (some 9)).length + 1 + (numS j).length ≤ 100
          omega
        refine ⟨_, rfl, _, rfl, dn, zs.map V.str, rfl, .inl (SqL.of hdn9), rfl, by simp [flatV], _, rfl, ite2 (fun e => ?_) (fun e => ?_)⟩
        · have hin : z ∈ zs := (inV_str z zs).mp e
          obtain ⟨h1, h2⟩ := chg hin
          refine iteT ?_
          refine ⟨_, rfl, _, rfl, _, rfl, by omega, ?_⟩
          refine ⟨_, _, rfl, rfl, by rw [sz]; show (cutS z none (some 9)).length + 1 ≤ _; omega, _, rfl, _, rfl, ?_, _, _, rfl, rfl, ?_, ?_⟩
          · have : ((j : Int)).natAbs = j := rfl
            rw [this]
            have := Nat.log2_lt (n := j) (k := 1920)
            by_cases j0 : j = 0
            · subst j0
              decide
            · exact (this j0).mpr (Nat.lt_of_lt_of_le hj (by decide))
          · rw [sz, str_app_len]
            show (cutS z none (some 9)).length + 1 + (numS j).length ≤ _
            omega
          · exact ⟨rfl, _, _, rfl, h1, h2⟩
        · have hnin : z ∉ zs := fun h => e ((inV_str z zs).mpr h)
          refine ⟨_, rfl, _, rfl, t, [], rfl, .inl (SqL.of htd), rfl, rfl, _, rfl, ite2 (fun e2 => ?_) (fun _ => ⟨rfl, z, _, rfl, hz, .inl hnin⟩)⟩
          cases e2
      · rintro σ H' ⟨rfl, z, y6, rfl, hz, hc⟩
        have hnew : z ∉ zs := by
          rcases hc with hc | ⟨cs, c1, c2, c3, _⟩
          · exact hc
          · exfalso
            have h20 : (20 : Int).toNat = 20 := rfl
            rw [h20] at c1
            have := nodup_le c2 fun c hc => (c3 c hc).1
            omega
        refine ⟨.ref dn, rfl, .inl ⟨rfl, _, .inl (.inl hdn9)⟩, _, rfl, dn, _, _, rfl, rfl, hdn9, by rw [List.length_map, sz]; omega, ?_⟩
        refine ⟨zs ++ [z], _, _, _, rfl, (s7.trans s9).re ndn, r9.re a1 a2, by rw [upd_same, List.map_append]; rfl, by rw [List.length_append, hzl]; rfl, ?_⟩
        refine List.nodup_append.mpr ⟨hzn, by simp, fun a ha b hb e => ?_⟩
        have : b = z := by simpa using hb
        subst this
        exact hnew (e ▸ ha)
    · rintro σ H7 ⟨zs, y4, y5, y6, rfl, s7, r7, hdn, hzl, hzn⟩
      exact ⟨_, rfl, q1 H7 dn zs s7 r7 ndn hdn (by omega) hzn⟩
end
end PL
namespace PL
open PySem PySem.Spec PyProof.Rows L2
/-- all but two addresses stand -/
def SB2 (q d : Addr) (H H' : Hp) : Prop := ∀ b o, b ≠ q → b ≠ d → H b = some o → H' b = some o
theorem SB.sb2 {q d : Addr} {H H' : Hp} (s : SB q H H') : SB2 q d H H' := fun b o n _ h => s b o n h
theorem SB2.trans {q d : Addr} {H H' H'' : Hp} (s : SB2 q d H H') (t : SB2 q d H' H'') : SB2 q d H H'' := fun b o n m h => t b o n m (s b o n m h)
theorem SB2.upd {q d : Addr} {H H' : Hp} {o : HO} (s : SB2 q d H H') : SB2 q d H (L2.upd H' d o) := fun b u n m h => by
  rw [upd_ne m]
  exact s b u n m h
def rowK (er : List (Act × Nat)) : List (List L2.Key × V) := er.map fun x => (actK x.1, V.int (x.2 : Int))
theorem rowK_val {er : List (Act × Nat)} (a : Act) : (valV (rowK er) (actK a)).isSome = true ↔ a ∈ er.map (·.1) := by
  refine mem_keys (l := er.map (·.1)) (f := actK) ?_ (fun _ _ => actK_inj) a
  unfold rowK
  rw [List.map_map, List.map_map]
  rfl
/-- an edge more, or not -/
structure Edge (ps : List Str) (g : Nat) (er er' : List (Act × Nat)) : Prop where
  form : er' = er ∨ ∃ a, er' = er ++ [(a, g)] ∧ a ∉ er.map (·.1) ∧ a.1 ∈ ps ∧ a.2.1 ∈ ps
  got : er = [] → ∃ a, er' = [(a, g)]
abbrev sEdge : Stmt := topS 40
abbrev nEdge : List Str := ["_law_state_here", "_law_row", "_law_parties_here", "_law_labels", "_law_goal", "_law_sender", "_law_taker", "_law_action", "_law_label"]
theorem scEdge : FnScope nEdge ["_law_state_here", "_law_row", "_law_parties_here", "_law_labels", "_law_goal"] (defScope sEdge) := ⟨rfl, rfl, rfl, by decide +kernel, rfl, by decide +kernel, by decide +kernel⟩
def spEdge : Sp := fun vs H Q _ => ∃ (q pl rd pp pb : Addr) (ps ls : List Str) (er : List (Act × Nat)) (g : Nat), vs = [.ref q, .ref rd, .ref pp, .ref pb, .int (g : Int)] ∧ RSt pl H q ∧ H rd = some (.dT (rowK er)) ∧ er.length ≤ 1000 ∧
  H pp = some (.lst (ps.map V.str)) ∧ 2 ≤ ps.length ∧ ps.length ≤ 10 ∧ pp ≠ q ∧ H pb = some (.lst (ls.map V.str)) ∧ 1 ≤ ls.length ∧ ls.length ≤ 10 ∧ pb ≠ q ∧
  ∀ (H' : Hp) (er' : List (Act × Nat)), SB2 q rd H H' → RSt pl H' q → H' rd = some (.dT (rowK er')) → Edge ps g er er' → Q .non H'
section
variable {P : Program} {w : World} {K : PySem.W.Frag} {mg : Str → Option Value} {base : Heap}
theorem ok_edge {f fD : Addr} {fd fdD : FuncData} {k : Nat} (F : Fun K "_law_edge" "_law_edge" sEdge f fd)
    (GD : FnOk P w K mg base CX0 k fD fdD ["_law_state_here", "_law_limit"] spDraw) (kD : PySem.W.keepIn K (.ref fD) = true) (bD : Binds K fdD ["_law_state_here", "_law_limit"] []) (gD : mg "_law_draw" = some (.ref fD)) (mI : mg "int" = none) (mL : mg "len" = none) :
    FnOk P w K mg base CX0 (k + 1) f fd ["_law_state_here", "_law_row", "_law_parties_here", "_law_labels", "_law_goal"] spEdge := by
  refine F.ok scEdge (fun vs H Q E h => ?_) (fun cdv A outer s0 H vs Q E hr h => ?_)
  · obtain ⟨q, pl, rd, pp, pb, ps, ls, er, g, rfl, _⟩ := h
    rfl
  · obtain ⟨q, pl, rd, pp, pb, ps, ls, er, g, rfl, hst, hrd, herl, hpp, hps1, hps2, npp, hpb, hls1, hls2, npb, q1⟩ := h
    have hu := hu_of hr
    have nd := scEdge.nd
    refine ⟨_, pss_cons (ps_set (i := 5) nd rfl (.inl rfl) (pe_call GD hr (by rfl) gD kD bD .nil pass0 (pa_cons (pv 0) (pa_cons (pe_callB call_len_seq (by rfl) mL (by decide +kernel) (pa_cons (pv 2) pa_nil)) pa_nil))))
      (pss_cons (ps_set (i := 6) nd rfl (.inl rfl) (pe_op op_mod (pe_callTy call_int1 (by rfl) mI (by decide +kernel) (pa_cons (pe_add (pe_add (pv 5) pe_int) (pe_call GD hr (by rfl) gD kD bD .nil pass0 (pa_cons (pv 0) (pa_cons (pe_op op_sub (pe_callB call_len_seq (by rfl) mL (by decide +kernel) (pa_cons (pv 2) pa_nil)) pe_int) pa_nil)))) pa_nil))
          (pe_callB call_len_seq (by rfl) mL (by decide +kernel) (pa_cons (pv 2) pa_nil))))
      (pss_cons (ps_set (i := 7) nd rfl (.inl rfl) (pe_tup (pa_cons (pe_ix ix_list (pv 2) (pv 5) (fun _ _ => rfl)) (pa_cons (pe_ix ix_list (pv 2) (pv 6) (fun _ _ => rfl)) (pa_cons (pe_ix ix_list (pv 3) (pe_call GD hr (by rfl) gD kD bD .nil pass0 (pa_cons (pv 0) (pa_cons (pe_callB call_len_seq (by rfl) mL (by decide +kernel) (pa_cons (pv 3) pa_nil)) pa_nil))) (fun _ _ => rfl)) pa_nil)))))
      (pss_cons (ps_for PassesOwn.never rfl (pi_list (pv 3)) (pg_name (i := 8) nd rfl (.inl rfl))
        (pss_one (ps_if (pt_cmp (pc_din hu (pv 7) (pv 1))) (pss_one (ps_set (i := 7) nd rfl (.inl rfl) (pe_tup (pa_cons (pe_ix ix_tup (pv 7) pe_int (fun _ _ => rfl)) (pa_cons (pe_ix ix_tup (pv 7) pe_int (fun _ _ => rfl)) (pa_cons (pv 8) pa_nil)))))) pss_nil)))
      (pss_one (ps_if (pt_cmp (pc_dnotin hu (pv 7) (pv 1))) (pss_one (ps_dput hu (pv 1) (pv 7) (pv 4) rfl)) pss_nil))))), ?_⟩
    have sz := sizeLine_eq
    have lps : ((ps.map V.str).length : Int) = ((ps.length : Nat) : Int) := by rw [List.length_map]
    have lls : ((ls.map V.str).length : Int) = ((ls.length : Nat) : Int) := by rw [List.length_map]
    refine ⟨_, rfl, _, rfl, pp, _, rfl, .inl (SqL.of hpp), ?_⟩
    rw [lps]
    refine ⟨q, pl, ps.length, rfl, hst, by omega, by omega, fun H1 d1 s1 r1 hd1 => ?_⟩
    have hpp1 := s1 _ _ npp hpp
    have eps : ((ps.map V.str).length : Int) - 1 = ((ps.length - 1 : Nat) : Int) := by rw [List.length_map]; omega
    refine ⟨_, rfl, _, _, rfl, rfl, _, rfl, _, rfl, pp, _, rfl, .inl (SqL.of hpp1), _, _, rfl, rfl, ?_⟩
    dsimp only
    rw [eps]
    refine ⟨q, pl, ps.length - 1, rfl, r1, by omega, by omega, fun H2 d2 s2 r2 hd2 => ?_⟩
    have hpp2 := s2 _ _ npp hpp1
    obtain ⟨tk, etk, htk⟩ := emodN ((d1 : Int) + 1 + (d2 : Int)) (n := ps.length) (by omega)
    refine ⟨_, _, rfl, rfl, .inl ⟨_, rfl, _, rfl, pp, _, rfl, .inl (SqL.of hpp2), _, _, rfl, rfl, (by rw [lps]; show (0 : Int) < _; omega), ?_⟩⟩
    dsimp only
    rw [lps, etk]
    have hp1 : (ps.map V.str)[d1]? = some (.str (ps.getD d1 default)) := by rw [List.getElem?_map, some_getD (d := default) hd1]; rfl
    have hp2 : (ps.map V.str)[tk]? = some (.str (ps.getD tk default)) := by rw [List.getElem?_map, some_getD (d := default) htk]; rfl
    have m1 : ps.getD d1 default ∈ ps := List.mem_of_getElem? (some_getD hd1)
    have m2 : ps.getD tk default ∈ ps := List.mem_of_getElem? (some_getD htk)
    have hpb2 := s2 _ _ npb (s1 _ _ npb hpb)
    refine ⟨_, rfl, _, rfl, pp, _, _, _, rfl, rfl, SqL.of hpp2, atI_nat hp1, _, rfl, _, rfl, pp, _, _, _, rfl, rfl, SqL.of hpp2, atI_nat hp2, _, rfl, _, rfl, _, rfl, pb, _, rfl, .inl (SqL.of hpb2), ?_⟩
    rw [lls]
    refine ⟨q, pl, ls.length, rfl, r2, by omega, by omega, fun H3 d3 s3 r3 hd3 => ?_⟩
    have hpb3 := s3 _ _ npb hpb2
    have hl3 : (ls.map V.str)[d3]? = some (.str (ls.getD d3 default)) := by rw [List.getElem?_map, some_getD (d := default) hd3]; rfl
    refine ⟨pb, _, _, _, rfl, rfl, SqL.of hpb3, atI_nat hl3, Nat.le_of_ble_eq_true rfl, fun pa npa => ?_⟩
    have s13 := (s1.trans s2).trans s3
    have nrd : rd ≠ q := fun e => by obtain ⟨xs, hx⟩ := hst.some; rw [e, hx] at hrd; cases hrd
    have hrd3 := s13 _ _ nrd hrd
    obtain ⟨H4, eH4⟩ : ∃ H4, H4 = L2.upd H3 pa (.tup [.str (ps.getD d1 default), .str (ps.getD tk default), .str (ls.getD d3 default)]) := ⟨_, rfl⟩
    rw [← eH4]
    have s34 : Same H3 H4 := by rw [eH4]; exact same_upd npa
    have r4 : RSt pl H4 q := r3.same s34
    have ha4 : RAct H4 (.ref pa) (ps.getD d1 default, ps.getD tk default, ls.getD d3 default) := ⟨pa, rfl, by rw [eH4, upd_same]; rfl⟩
    have hpb4 := s34 _ _ hpb3
    have hrd4 := s34 _ _ hrd3
    refine ⟨.ref pb, rfl, pb, rfl, ⟨_, SqL.of hpb4⟩, for_it (walk_list (xs := ls.map V.str)) (fun i σ H7 => ∃ (pa : Addr) (a : Act) (y8 : Option V), σ = [some (.ref q), some (.ref rd), some (.ref pp), some (.ref pb), some (.int (g : Int)), some (.int (d1 : Int)), some (.int (tk : Int)), some (.ref pa), y8] ∧ Same H4 H7 ∧ RAct H7 (.ref pa) a ∧ a.1 ∈ ps ∧ a.2.1 ∈ ps)
      ⟨pa, _, none, rfl, fun _ _ h => h, ha4, m1, m2⟩ (fun i σ H7 _ ⟨_, _, _, _, sm, _⟩ => SqL.of (sm _ _ hpb4)) ?_ ?_⟩
    · rintro i yv σ H7 H8 hi ⟨pa, a, y8, rfl, sm, ⟨pa', ea, hpa⟩, n1, n2⟩ ⟨rfl, hyi⟩
      cases ea
      obtain ⟨lb, hlb, rfl⟩ : ∃ lb, ls[i]? = some lb ∧ yv = .str lb := by
        rw [List.getElem?_map] at hyi
        cases e : ls[i]? with
        | none => rw [e] at hyi; cases hyi
        | some p => rw [e] at hyi; exact ⟨p, rfl, (Option.some.inj hyi).symm⟩
      refine ⟨_, rfl, _, rfl, rd, _, rfl, DGet.t (k := actK a) (sm _ _ hrd4) hpa, _, rfl, ite2 (fun e => ?_) (fun e => ?_)⟩
      · refine ⟨_, rfl, pa, _, _, .str a.1, rfl, rfl, SqT.of hpa, atI_nat (j := 0) rfl, _, rfl, pa, _, _, .str a.2.1, rfl, rfl, SqT.of hpa, atI_nat (j := 1) rfl, _, rfl, Nat.le_of_ble_eq_true rfl, fun pa2 npa2 => ?_⟩
        exact ⟨pa2, (a.1, a.2.1, lb), _, rfl, sm.trans (same_upd npa2), ⟨pa2, rfl, by rw [upd_same]; rfl⟩, n1, n2⟩
      · exact ⟨pa, a, _, rfl, sm, ⟨pa, rfl, hpa⟩, n1, n2⟩
    · rintro σ H7 ⟨pa, a, y8, rfl, sm, ⟨pa', ea, hpa⟩, n1, n2⟩
      cases ea
      have hrd7 := sm _ _ hrd4
      have s7 : SB q H H7 := s13.trans (SB.of (s34.trans sm))
      have r7 := r4.same sm
      refine ⟨_, rfl, _, rfl, rd, _, rfl, DGet.t (k := actK a) hrd7 hpa, _, rfl, ite2 (fun e => ?_) (fun e => ?_)⟩
      · have hnew : a ∉ er.map (·.1) := fun z => by
          rw [(rowK_val a).mpr z] at e
          cases e
        have hvn : valV (rowK er) (actK a) = none := by
          cases h : valV (rowK er) (actK a) with
          | none => rfl
          | some v => exact absurd ((rowK_val a).mp (by rw [h]; rfl)) hnew
        have hlen : (rowK er).length = er.length := by unfold rowK; rw [List.length_map]
        refine ⟨_, rfl, _, rfl, _, rfl, rd, _, rfl, DPut.t (k := actK a) hrd7 hpa (by rw [hlen, sz]; omega), ?_⟩
        have npl : rd ≠ pl := fun e => by
          obtain ⟨_, _, _, _, _, _, _, h3, _⟩ := r7
          rw [← e, hrd7] at h3
          cases h3
        refine q1 _ (er ++ [(a, g)]) s7.sb2.upd (r7.re nrd npl) ?_ ⟨.inr ⟨a, rfl, hnew, n1, n2⟩, fun e => ⟨a, by rw [e]; rfl⟩⟩
        rw [upd_same, putK_new _ hvn]
        unfold rowK
        rw [List.map_append]
        rfl
      · have hin : a ∈ er.map (·.1) := by
          refine (rowK_val a).mp ?_
          cases h : (valV (rowK er) (actK a)).isSome with
          | true => rfl
          | false => rw [h] at e; exact absurd rfl e
        exact q1 H7 er s7.sb2 r7 hrd7 ⟨.inl rfl, fun e => by rw [e] at hin; cases hin⟩
end
end PL
namespace PL
open PySem PySem.Spec PyProof.Rows L2
theorem pix {α β : Type} {F : α → β → Prop} : ∀ {l : List α} {m : List β}, l.length = m.length → (∀ (i : Nat) x y, l[i]? = some x → m[i]? = some y → F x y) → Paired F l m
  | [], [], _, _ => .nil
  | [], _ :: _, h, _ => by cases h
  | _ :: _, [], h, _ => by cases h
  | x :: l, y :: m, h, f => .cons (f 0 x y rfl rfl) (pix (by simpa using h) fun i a b h1 h2 => f (i + 1) a b (by simpa using h1) (by simpa using h2))
/-- dicts of edges at different places -/
structure RDs (q : Addr) (H : Hp) (vs : List V) (ers : List (List (Act × Nat))) : Prop where
  at_ : Paired (fun v er => ∃ d, v = V.ref d ∧ d ≠ q ∧ H d = some (.dT (rowK er))) vs ers
  nd : vs.Nodup
theorem RDs.put {q d : Addr} {H H' : Hp} {vs : List V} {ers : List (List (Act × Nat))} {k : Nat} {er' : List (Act × Nat)} (h : RDs q H vs ers) (hv : vs[k]? = some (.ref d)) (s : SB2 q d H H') (hd : H' d = some (.dT (rowK er'))) (nq : d ≠ q) : RDs q H' vs (ers.set k er') := by
  refine ⟨pix (by rw [List.length_set]; exact plen h.at_) fun i x y hx hy => ?_, h.nd⟩
  obtain ⟨y0, hy0, d0, e0, n0, h0⟩ := pget h.at_ hx
  rw [List.getElem?_set] at hy
  by_cases e : k = i
  · subst e
    rw [hv] at hx
    cases hx
    rw [if_pos rfl, if_pos (List.getElem?_eq_some_iff.mp hy0).1] at hy
    cases hy
    exact ⟨d, rfl, nq, hd⟩
  · rw [if_neg e, hy0] at hy
    cases hy
    refine ⟨d0, e0, n0, s d0 _ n0 (fun z => ?_) h0⟩
    subst z
    subst e0
    exact e (nd_ix h.nd hv hx)
theorem RDs.sb {q : Addr} {H H' : Hp} {vs : List V} {ers : List (List (Act × Nat))} (h : RDs q H vs ers) (s : SB q H H') : RDs q H' vs ers := ⟨Paired.mapP h.at_ fun v er ⟨d, e, n, hd⟩ => ⟨d, e, n, s d _ n hd⟩, h.nd⟩
/-- the edges while they are drawn: those to the next state up to i, and at most m in all of a state -/
structure EI (ps : List Str) (n i m : Nat) (ers : List (List (Act × Nat))) : Prop where
  len : ers.length = n
  nd : ∀ er ∈ ers, (er.map (·.1)).Nodup
  lt : ∀ er ∈ ers, ∀ x ∈ er, x.2 < n
  ps : ∀ er ∈ ers, ∀ x ∈ er, x.1.1 ∈ ps ∧ x.1.2.1 ∈ ps
  small : ∀ er ∈ ers, er.length ≤ m
  chain : ∀ k, k < i → ∃ a er, ers[k]? = some er ∧ (a, k + 1) ∈ er
theorem EI.put {ps : List Str} {n i m k g : Nat} {ers : List (List (Act × Nat))} (h : EI ps n i m ers) {er er' : List (Act × Nat)} (hk : ers[k]? = some er) (he : Edge ps g er er') (hg : g < n) : EI ps n i (m + 1) (ers.set k er') := by
  have hmem : er ∈ ers := List.mem_of_getElem? hk
  have sub : ∀ x ∈ er, x ∈ er' := fun x hx => by
    rcases he.form with e | ⟨a, e, _⟩
    · rw [e]; exact hx
    · rw [e]; exact List.mem_append_left _ hx
  have mem : ∀ z ∈ ers.set k er', z ∈ ers ∨ z = er' := fun z hz => List.mem_or_eq_of_mem_set hz
  refine ⟨by rw [List.length_set]; exact h.len, fun z hz => ?_, fun z hz x hx => ?_, fun z hz x hx => ?_, fun z hz => ?_, fun j hj => ?_⟩
  · rcases mem z hz with hz | rfl
    · exact h.nd z hz
    · rcases he.form with e | ⟨a, e, hn, _⟩
      · rw [e]; exact h.nd er hmem
      · rw [e, List.map_append]
        refine List.nodup_append.mpr ⟨h.nd er hmem, by simp, fun x hx b hb e2 => ?_⟩
        have : b = a := by simpa using hb
        subst this
        exact hn (by rw [← e2]; exact hx)
  · rcases mem z hz with hz | rfl
    · exact h.lt z hz x hx
    · rcases he.form with e | ⟨a, e, _⟩
      · rw [e] at hx; exact h.lt er hmem x hx
      · rw [e] at hx
        rcases List.mem_append.mp hx with hx | hx
        · exact h.lt er hmem x hx
        · have : x = (a, g) := by simpa using hx
          subst this
          exact hg
  · rcases mem z hz with hz | rfl
    · exact h.ps z hz x hx
    · rcases he.form with e | ⟨a, e, _, p1, p2⟩
      · rw [e] at hx; exact h.ps er hmem x hx
      · rw [e] at hx
        rcases List.mem_append.mp hx with hx | hx
        · exact h.ps er hmem x hx
        · have : x = (a, g) := by simpa using hx
          subst this
          exact ⟨p1, p2⟩
  · rcases mem z hz with hz | rfl
    · exact Nat.le_succ_of_le (h.small z hz)
    · have := h.small er hmem
      rcases he.form with e | ⟨a, e, _⟩
      · rw [e]; omega
      · rw [e, List.length_append, List.length_singleton]; omega
  · obtain ⟨a, e2, h1, h2⟩ := h.chain j hj
    by_cases e : k = j
    · subst e
      rw [hk] at h1
      cases h1
      exact ⟨a, er', by rw [List.getElem?_set, if_pos rfl, if_pos (List.getElem?_eq_some_iff.mp hk).1], sub _ h2⟩
    · exact ⟨a, e2, by rw [List.getElem?_set, if_neg e]; exact h1, h2⟩
/-- the rows as they are told -/
def valOf (er : List (Act × Nat)) (a : Act) : Nat := (look er a).getD 0
def told (er : List (Act × Nat)) : List (Act × Nat) := (sA (er.map (·.1))).map fun a => (a, valOf er a)
theorem told_keys (er : List (Act × Nat)) : (told er).map (·.1) = sA (er.map (·.1)) := by
  unfold told
  rw [List.map_map]
  exact List.map_id _
theorem sA_perm (l : List Act) : (sA l).Perm l := List.mergeSort_perm _ _
theorem told_mem {er : List (Act × Nat)} (nd : (er.map (·.1)).Nodup) (x : Act × Nat) : x ∈ told er ↔ x ∈ er := by
  unfold told
  rw [List.mem_map]
  constructor
  · rintro ⟨a, ha, rfl⟩
    obtain ⟨y, hy, rfl⟩ := List.mem_map.mp ((sA_perm _).mem_iff.mp ha)
    have := look_of nd hy
    unfold valOf
    rw [this]
    exact hy
  · intro hx
    refine ⟨x.1, (sA_perm _).mem_iff.mpr (List.mem_map.mpr ⟨x, hx, rfl⟩), ?_⟩
    unfold valOf
    rw [look_of nd hx]
    rfl
theorem rowK_get (a : Act) : ∀ er : List (Act × Nat), valV (rowK er) (actK a) = (look er a).map fun n : Nat => V.int (n : Int)
  | [] => rfl
  | x :: er => by
    show valV ((actK x.1, V.int (x.2 : Int)) :: rowK er) (actK a) = _
    unfold look
    by_cases e : x.1 = a
    · rw [if_pos e, valV_pos (by rw [← e])]
      rfl
    · rw [if_neg e, valV_neg (fun z => e (actK_inj z)), rowK_get a er]
theorem rowK_at {er : List (Act × Nat)} {a : Act} (h : a ∈ er.map (·.1)) : valV (rowK er) (actK a) = some (.int (valOf er a : Int)) := by
  have h1 := (rowK_val a).mpr h
  rw [rowK_get] at h1 ⊢
  cases e : look er a with
  | none => rw [e] at h1; cases h1
  | some g =>
    unfold valOf
    rw [e]
    rfl
theorem SB.new2 {q d : Addr} {H H1 H2 : Hp} (s : SB q H H1) (t : SB2 q d H1 H2) (n : H d = none) : SB q H H2 := fun b o nb h => t b o nb (ne_of_none h n) (s b o nb h)
theorem EI.up {ps : List Str} {n i m m' : Nat} {ers : List (List (Act × Nat))} (h : EI ps n i m ers) (hm : m ≤ m') : EI ps n i m' ers := ⟨h.len, h.nd, h.lt, h.ps, fun er he => Nat.le_trans (h.small er he) hm, h.chain⟩
structure TabOk (T : Tbl) (ps : List Str) (n : Nat) : Prop where
  ok : T.OK
  len : T.rows.length = n
  rowlen : ∀ r ∈ T.rows, r.length ≤ 50
  ps : ∀ p, Occ T p → p ∈ ps
  fin : CanEnd T
theorem tab_of {ps : List Str} {n m : Nat} {ers : List (List (Act × Nat))} {es : List Bool} (h : EI ps n (n - 1) m ers) (hn : 0 < n) (hm : m ≤ 50) (he : es.length = n) (hl : es.getD (n - 1) false = true) : TabOk ⟨ers.map told, es⟩ ps n := by
  have hok : (⟨ers.map told, es⟩ : Tbl).OK := by
    refine ⟨fun row hr p hp => ?_, ?_, ?_, fun row hr => ?_⟩
    · obtain ⟨er, her, rfl⟩ := List.mem_map.mp hr
      show p.2 < (ers.map told).length
      rw [List.length_map, h.len]
      exact h.lt er her p ((told_mem (h.nd er her) p).mp hp)
    · show es.length = (ers.map told).length
      rw [List.length_map, h.len, he]
    · show 0 < (ers.map told).length
      rw [List.length_map, h.len]
      exact hn
    · obtain ⟨er, her, rfl⟩ := List.mem_map.mp hr
      rw [told_keys]
      exact (sA_perm _).nodup_iff.mpr (h.nd er her)
  refine ⟨hok, by show (ers.map told).length = n; rw [List.length_map, h.len], fun r hr => ?_, fun p hp => ?_, ?_⟩
  · obtain ⟨er, her, rfl⟩ := List.mem_map.mp hr
    have h1 := (sA_perm (er.map (·.1))).length_eq
    have h2 := h.small er her
    unfold told
    rw [List.length_map, h1, List.length_map]
    omega
  · obtain ⟨row, hr, x, hx, e⟩ := hp
    obtain ⟨er, her, rfl⟩ := List.mem_map.mp hr
    have := h.ps er her x ((told_mem (h.nd er her) x).mp hx)
    rcases e with e | e
    · exact e ▸ this.1
    · exact e ▸ this.2
  · have reach : ∀ k, k < n → ∃ r, (⟨ers.map told, es⟩ : Tbl).walk r = some k := by
      intro k
      induction k with
      | zero => exact fun _ => ⟨[], rfl⟩
      | succ k ih =>
        intro hk
        obtain ⟨r, hr⟩ := ih (by omega)
        obtain ⟨a, er, h1, h2⟩ := h.chain k (by omega)
        refine ⟨r ++ [a], ?_⟩
        rw [walk_snoc, hr]
        have her := List.mem_of_getElem? h1
        exact hok.next_of (row := told er) (by show (ers.map told)[k]? = _; rw [List.getElem?_map, h1]; rfl) ((told_mem (h.nd er her) (a, k + 1)).mpr h2)
    obtain ⟨r, hr⟩ := reach (n - 1) (by omega)
    exact ⟨r, n - 1, hr, hl⟩
abbrev sTab : Stmt := topS 39
abbrev nTab : List Str := ["_law_state_here", "_law_parties_here", "_law_labels", "_law_size", "_law_k", "_law_rows", "_law_ends", "_law_x", "_law_row"]
theorem scTab : FnScope nTab ["_law_state_here", "_law_parties_here", "_law_labels", "_law_size"] (defScope sTab) := ⟨rfl, rfl, rfl, by decide +kernel, rfl, by decide +kernel, by decide +kernel⟩
def spTab : Sp := fun vs H Q _ => ∃ (q pl pp pb : Addr) (ps ls : List Str) (n : Nat), vs = [.ref q, .ref pp, .ref pb, .int (n : Int)] ∧ RSt pl H q ∧ H pp = some (.lst (ps.map V.str)) ∧ 2 ≤ ps.length ∧ ps.length ≤ 10 ∧ pp ≠ q ∧ H pb = some (.lst (ls.map V.str)) ∧ 1 ≤ ls.length ∧ ls.length ≤ 10 ∧ pb ≠ q ∧ 1 ≤ n ∧ n ≤ 4 ∧
  ∀ (H' : Hp) (p : Addr) (T : Tbl), SB q H H' → RSt pl H' q → H p = none → RTbl H' (.ref p) T → TabOk T ps n → Q (.ref p) H'
section
variable {P : Program} {w : World} {K : PySem.W.Frag} {mg : Str → Option Value} {base : Heap}
theorem ok_tab {f fD fE : Addr} {fd fdD fdE : FuncData} {k : Nat} (F : Fun K "_law_table" "_law_table" sTab f fd)
    (GD : FnOk P w K mg base CX0 k fD fdD ["_law_state_here", "_law_limit"] spDraw) (kD : PySem.W.keepIn K (.ref fD) = true) (bD : Binds K fdD ["_law_state_here", "_law_limit"] []) (gD : mg "_law_draw" = some (.ref fD))
    (GE : FnOk P w K mg base CX0 k fE fdE ["_law_state_here", "_law_row", "_law_parties_here", "_law_labels", "_law_goal"] spEdge) (kE : PySem.W.keepIn K (.ref fE) = true) (bE : Binds K fdE ["_law_state_here", "_law_row", "_law_parties_here", "_law_labels", "_law_goal"] []) (gE : mg "_law_edge" = some (.ref fE))
    (mR : mg "range" = none) (mT : mg "tuple" = none) (mS : mg "sorted" = none) : FnOk P w K mg base CX0 (k + 1) f fd ["_law_state_here", "_law_parties_here", "_law_labels", "_law_size"] spTab := by
  refine F.ok scTab (fun vs H Q E h => ?_) (fun cdv A outer s0 H vs Q E hr h => ?_)
  · obtain ⟨q, pl, pp, pb, ps, ls, n, rfl, _⟩ := h
    rfl
  · obtain ⟨q, pl, pp, pb, ps, ls, n, rfl, hst, hpp, hps1, hps2, npp, hpb, hls1, hls2, npb, hn1, hn4, q1⟩ := h
    have hu := hu_of hr
    have nd := scTab.nd
    refine ⟨_, pss_cons (ps_setLc (i := 5) (own := [("_law_k", 4)]) (g := gName 4) (by rfl) nd rfl rfl (sw_true rfl rfl rfl (by decide +kernel)) (pi_range1 (by rfl) mR (pa_cons (pv 3) pa_nil)) (blkOk_by (N := nTab) (sc := defScope sTab) (by decide +kernel)) (fun _ _ _ _ _ => pg_name (i := 4) nd rfl (Or.inl rfl)) (fun _ _ _ _ _ => pts_nil) (fun _ _ _ _ _ => pe_dnewT))
      (pss_cons (ps_for PassesOwn.never rfl (pi_range1 (by rfl) mR (pa_cons (pe_op op_sub (pv 3) pe_int) pa_nil)) (pg_name (i := 4) nd rfl (.inl rfl))
        (pss_one (ps_expr (pe_call GE hr (by rfl) gE kE bE .nil pass0 (pa_cons (pv 0) (pa_cons (pe_ix ix_list (pv 5) (pv 4) (fun _ _ => rfl)) (pa_cons (pv 1) (pa_cons (pv 2) (pa_cons (pe_add (pv 4) pe_int) pa_nil)))))))))
      (pss_cons (ps_for PassesOwn.never rfl (pi_range1 (by rfl) mR (pa_cons (pe_call GD hr (by rfl) gD kD bD .nil pass0 (pa_cons (pv 0) (pa_cons (pe_add (pe_op op_mulN pe_int (pv 3)) pe_int) pa_nil))) pa_nil)) (pg_name (i := 4) nd rfl (.inl rfl))
        (pss_one (ps_expr (pe_call GE hr (by rfl) gE kE bE .nil pass0 (pa_cons (pv 0) (pa_cons (pe_ix ix_list (pv 5) (pe_call GD hr (by rfl) gD kD bD .nil pass0 (pa_cons (pv 0) (pa_cons (pv 3) pa_nil))) (fun _ _ => rfl)) (pa_cons (pv 1) (pa_cons (pv 2) (pa_cons (pe_call GD hr (by rfl) gD kD bD .nil pass0 (pa_cons (pv 0) (pa_cons (pv 3) pa_nil))) pa_nil)))))))))
      (pss_cons (ps_setLc (i := 6) (own := [("_law_k", 4)]) (g := gName 4) (by rfl) nd rfl rfl (sw_true rfl rfl rfl (by decide +kernel)) (pi_range1 (by rfl) mR (pa_cons (pv 3) pa_nil)) (blkOk_by (N := nTab) (sc := defScope sTab) (by decide +kernel)) (fun _ _ _ _ _ => pg_name (i := 4) nd rfl (Or.inl rfl)) (fun _ _ _ _ _ => pts_nil)
        (fun _ _ _ _ _ => pe_cmp (pc_eqI (pe_call GD hr (by rfl) gD kD bD .nil pass0 (pa_cons (pv 0) (pa_cons pe_int pa_nil))) pe_int)))
      (pss_cons (ps_asg pe_bl (pg_sub (pv 6) (pe_op op_sub (pv 3) pe_int) set_list))
      (pss_one (ps_ret (pe_tup (pa_cons pe_str (pa_cons (pe_callTy (cr_tup (K := K) rfl) (by rfl) mT (by decide +kernel) (pa_cons
          (pe_lc (own := [("_law_row", 8)]) (g := gName 8) (by rfl) nd (pi_list (pv 5)) (blkOk_by (N := nTab) (sc := defScope sTab) (by decide +kernel)) (fun _ _ _ _ _ => pg_name (i := 8) nd rfl (Or.inr rfl)) (fun _ _ _ _ _ => pts_nil)
            (fun _ _ _ _ _ => pe_callTy (cr_tup (K := K) rfl) (by rfl) mT (by decide +kernel) (pa_cons (pe_lc (own := [("_law_x", 7)]) (g := gName 7) (by rfl) nd (pi_listK (K := K) rfl (pe_callB (cr_sortD rfl hr.units) (by rfl) mS (by decide +kernel) (pa_cons (pv 8) pa_nil))) (blkOk_by (N := nTab) (sc := scB [(".0", .local), ("_law_row", .cell), ("tuple", .globalImplicit), ("sorted", .globalImplicit)]) (by decide +kernel)) (fun _ _ _ _ _ => pg_name (i := 7) nd rfl (Or.inl rfl)) (fun _ _ _ _ _ => pts_nil)
              (fun _ _ _ _ _ => pe_tup (pa_cons (pv 7) (pa_cons (pe_dget hu (pv 8) (pv 7) (fun _ _ => rfl)) pa_nil)))) pa_nil))) pa_nil))
          (pa_cons (pe_callTy (cr_tup (K := K) rfl) (by rfl) mT (by decide +kernel) (pa_cons (pv 6) pa_nil)) pa_nil)))))))))), ?_⟩
    have sz := sizeLine_eq
    refine ⟨_, rfl, (n : Int), rfl, by omega, by omega, fun dr ndr => lc_it walk_rg (fun i H2 => Same H H2 ∧ ∃ rvs, H2 dr = some (.lst rvs) ∧ rvs.length = i ∧ RDs q H2 rvs (List.replicate i []) ∧ ∀ v ∈ rvs, ∃ d, v = .ref d ∧ H d = none)
      ⟨same_upd ndr, [], upd_same, rfl, ⟨.nil, List.nodup_nil⟩, by simp⟩ (fun _ _ _ _ => trivial) ?_ ?_⟩
    · rintro i y H2 H3 hi ⟨s2, rvs, hdr, hrl, hrd, hnew⟩ ⟨rfl, rfl⟩
      refine ⟨rfl, iteT (B := True) ?_⟩
      intro d nd0
      have hdr2 := same_upd (o := .dT []) nd0 _ _ hdr
      have s3 := s2.trans (same_upd (o := .dT []) nd0)
      have ndr' : d ≠ dr := fun e => by rw [e, hdr] at nd0; cases nd0
      have nq : d ≠ q := (hst.apart (s2.free nd0)).1
      refine ⟨rvs, hdr2, by rw [sz]; omega, same_re s3 ndr, rvs ++ [.ref d], upd_same, by rw [List.length_append, hrl]; rfl, ⟨?_, ?_⟩, fun v hv => ?_⟩
      · rw [List.replicate_succ']
        refine psnoc (Paired.mapP hrd.at_ fun v er ⟨d', e, n', h'⟩ => ⟨d', e, n', ?_⟩) ⟨d, rfl, nq, by rw [upd_ne ndr', upd_same]; rfl⟩
        have n2 : d' ≠ dr := ne_of h' hdr (fun z => nomatch z)
        rw [upd_ne n2]
        exact same_upd nd0 _ _ h'
      · refine List.nodup_append.mpr ⟨hrd.nd, by simp, fun a ha b hb e => ?_⟩
        have : b = .ref d := by simpa using hb
        subst this
        subst e
        obtain ⟨er, _, d', e', _, h'⟩ := pmem hrd.at_ ha
        cases e'
        rw [h'] at nd0
        cases nd0
      · rcases List.mem_append.mp hv with hv | hv
        · exact hnew v hv
        · have : v = .ref d := by simpa using hv
          exact ⟨d, this, s2.free nd0⟩
    rintro H2 ⟨s2, rvs, hdr, hrl, hrd, hnew⟩
    have enn : ((n : Int)).toNat = n := rfl
    rw [enn] at hrl hrd
    have ndrq := hst.apart ndr
    have hEI0 : EI ps n 0 0 (List.replicate n []) := by
      refine ⟨by simp, fun er he => ?_, fun er he x hx => ?_, fun er he x hx => ?_, fun er he => ?_, fun k hk => absurd hk (Nat.not_lt_zero k)⟩ <;> have := List.eq_of_mem_replicate he <;> subst this
      · exact List.nodup_nil
      · cases hx
      · cases hx
      · exact Nat.le_refl _
    -- the heap between two edges
    let HI : Nat → Nat → List (List (Act × Nat)) → Hp → Prop := fun i m ers H' => SB q H H' ∧ RSt pl H' q ∧ H' dr = some (.lst rvs) ∧ RDs q H' rvs ers ∧ EI ps n i m ers
    have hHI0 : HI 0 0 (List.replicate n []) H2 := ⟨SB.of s2, hst.same s2, hdr, hrd, hEI0⟩
    have hsb : ∀ {i m : Nat} {ers : List (List (Act × Nat))} {H' H'' : Hp}, HI i m ers H' → SB q H' H'' → RSt pl H'' q → HI i m ers H'' := fun ⟨a1, a2, a3, a4, a5⟩ s r => ⟨a1.trans s, r, s _ _ ndrq.1 a3, a4.sb s, a5⟩
    -- the dict of a state
    have dict : ∀ {i m : Nat} {ers : List (List (Act × Nat))} {H' : Hp}, HI i m ers H' → ∀ k, k < n → ∃ d er, rvs[k]? = some (.ref d) ∧ ers[k]? = some er ∧ d ≠ q ∧ H' d = some (.dT (rowK er)) ∧ H d = none ∧ dr ≠ d := by
      intro i m ers H' ⟨_, _, a3, a4, a5⟩ k hk
      have hk2 : k < ers.length := by rw [a5.len]; exact hk
      obtain ⟨v, hv, d, e, nq, hd⟩ := pget' a4.at_ (List.getElem?_eq_getElem hk2)
      subst e
      obtain ⟨d', e', hn⟩ := hnew _ (List.mem_of_getElem? hv)
      cases e'
      exact ⟨d, _, hv, List.getElem?_eq_getElem hk2, nq, hd, hn, ne_of a3 hd (fun z => nomatch z)⟩
    have after : ∀ {i m k g d : Nat} {ers : List (List (Act × Nat))} {H' H'' : Hp} {er er' : List (Act × Nat)}, HI i m ers H' → ers[k]? = some er → g < n → Edge ps g er er' → True := fun _ _ _ _ => trivial
    refine ⟨_, rfl, _, _, rfl, rfl, (n : Int) - 1, rfl, by omega, by omega, for_it walk_rg (fun i σ H7 => ∃ ers y4, σ = [some (.ref q), some (.ref pp), some (.ref pb), some (.int (n : Int)), y4, some (.ref dr), none, none, none] ∧ HI i i ers H7 ∧ ∀ k, i ≤ k → k < n → ers[k]? = some [])
      ⟨List.replicate n [], none, rfl, hHI0, fun k _ hk => by rw [List.getElem?_replicate, if_pos hk]⟩ (fun _ _ _ _ _ => trivial) ?_ ?_⟩
    · rintro k yv σ H7 H8 hk ⟨ers, y4, rfl, hHI, hemp⟩ ⟨rfl, rfl⟩
      have hk : k + 1 < n := by omega
      obtain ⟨d, er, hv, her, nq, hd, hdn, nrd⟩ := dict hHI k (by omega)
      have := hemp k (Nat.le_refl _) (by omega)
      rw [her] at this
      cases this
      obtain ⟨a1, a2, a3, a4, a5⟩ := hHI
      refine ⟨_, rfl, _, rfl, _, rfl, dr, rvs, _, _, rfl, rfl, SqL.of a3, atI_nat hv, _, rfl, _, rfl, _, rfl, _, _, rfl, rfl, ?_⟩
      refine ⟨q, pl, d, pp, pb, ps, ls, [], k + 1, rfl, a2, hd, by simp, a1 _ _ npp hpp, hps1, hps2, npp, a1 _ _ npb hpb, hls1, hls2, npb, fun H9 er' s9 r9 hd9 he => ?_⟩
      have a5' := a5.put her he hk
      obtain ⟨a, ea⟩ := he.got rfl
      refine ⟨ers.set k er', _, rfl, ⟨a1.new2 s9 hdn, r9, s9 _ _ ndrq.1 nrd a3, a4.put hv s9 hd9 nq, ⟨a5'.len, a5'.nd, a5'.lt, a5'.ps, a5'.small, fun j hj => ?_⟩⟩, fun j hj1 hj2 => ?_⟩
      · by_cases e : j = k
        · subst e
          exact ⟨a, er', by rw [List.getElem?_set, if_pos rfl, if_pos (List.getElem?_eq_some_iff.mp her).1], by rw [ea]; simp⟩
        · exact a5'.chain j (by omega)
      · rw [List.getElem?_set, if_neg (by omega)]
        exact hemp j (by omega) hj2
    rintro σ H7 ⟨ers, y4, rfl, hHI, _⟩
    have en1 : ((n : Int) - 1).toNat = n - 1 := by omega
    rw [en1] at hHI
    refine ⟨_, rfl, _, rfl, 2, n, rfl, rfl, by decide, _, _, rfl, rfl, q, pl, 2 * n + 1, rfl, hHI.2.1, by omega, by omega, fun H8 dd s8 r8 hdd => ?_⟩
    have hHI8 := hsb hHI s8 r8
    refine ⟨(dd : Int), rfl, by omega, by omega, for_it walk_rg (fun j σ H9 => ∃ ers y4, σ = [some (.ref q), some (.ref pp), some (.ref pb), some (.int (n : Int)), y4, some (.ref dr), none, none, none] ∧ HI (n - 1) (n - 1 + j) ers H9)
      ⟨ers, _, rfl, hHI8⟩ (fun _ _ _ _ _ => trivial) ?_ ?_⟩
    · rintro j yv σ H9 H10 hj ⟨ers, y4, rfl, hHI⟩ ⟨rfl, rfl⟩
      refine ⟨_, rfl, _, rfl, _, rfl, _, rfl, q, pl, n, rfl, hHI.2.1, by omega, by omega, fun H11 k2 s11 r11 hk2 => ?_⟩
      have h11 := hsb hHI s11 r11
      obtain ⟨d, er, hv, her, nq, hd, hdn, nrd⟩ := dict h11 k2 hk2
      refine ⟨dr, rvs, _, _, rfl, rfl, SqL.of h11.2.2.1, atI_nat hv, _, rfl, _, rfl, _, rfl, _, rfl, q, pl, n, rfl, r11, by omega, by omega, fun H12 g s12 r12 hg => ?_⟩
      obtain ⟨a1, a2, a3, a4, a5⟩ := hsb h11 s12 r12
      have hd12 := s12 _ _ nq hd
      have erl : er.length ≤ 1000 := by
        have := a5.small er (List.mem_of_getElem? her)
        omega
      refine ⟨q, pl, d, pp, pb, ps, ls, er, g, rfl, a2, hd12, erl, a1 _ _ npp hpp, hps1, hps2, npp, a1 _ _ npb hpb, hls1, hls2, npb, fun H13 er' s13 r13 hd13 he => ?_⟩
      exact ⟨ers.set k2 er', _, rfl, a1.new2 s13 hdn, r13, s13 _ _ ndrq.1 nrd a3, a4.put hv s13 hd13 nq, a5.put her he hg⟩
    rintro σ H9 ⟨ers, y4, rfl, hHI⟩
    have edd : ((dd : Int)).toNat = dd := rfl
    rw [edd] at hHI
    refine ⟨_, rfl, (n : Int), rfl, by omega, by omega, fun de nde => lc_it walk_rg (fun i H11 => HI (n - 1) (n - 1 + dd) ers H11 ∧ ∃ es : List Bool, H11 de = some (.lst (es.map V.bl)) ∧ es.length = i) ⟨?_, [], upd_same, rfl⟩ (fun _ _ _ _ => trivial) ?_ ?_⟩
    · obtain ⟨a1, a2, a3, a4, a5⟩ := hHI
      have n1 := a2.apart nde
      have hn := a1.free a2 nde
      refine ⟨a1.re hn, a2.re n1.1 n1.2, same_upd nde _ _ a3, ⟨Paired.mapP a4.at_ fun v er ⟨d, e, nq, hd⟩ => ⟨d, e, nq, same_upd nde _ _ hd⟩, a4.nd⟩, a5⟩
    · rintro i y H11 H12 hi ⟨hHI11, es, hde, hel⟩ ⟨rfl, rfl⟩
      have hi : i < n := hi
      have n1 := hHI.2.1.apart nde
      have hn0 := hHI.1.free hHI.2.1 nde
      refine ⟨rfl, iteT (B := True) ⟨_, rfl, q, pl, 3, rfl, hHI11.2.1, by decide, by decide, fun H13 d3 s13 r13 hd3 => ⟨_, _, rfl, rfl, ?_⟩⟩⟩
      have hde13 := s13 _ _ n1.1 hde
      obtain ⟨a1, a2, a3, a4, a5⟩ := hsb hHI11 s13 r13
      refine ⟨_, hde13, by rw [List.length_map, sz]; omega, ⟨a1.re hn0, a2.re n1.1 n1.2, ?_, ⟨Paired.mapP a4.at_ fun v er ⟨d, e, nq, hd⟩ => ⟨d, e, nq, ?_⟩, a4.nd⟩, a5⟩, es ++ [decide ((d3 : Int) = 0)], ?_, by rw [List.length_append, hel]; rfl⟩
      · rw [upd_ne (ne_of_none hHI.2.2.1 nde)]
        exact a3
      · have : d ≠ de := ne_of hd hde13 (fun z => nomatch z)
        rw [upd_ne this]
        exact hd
      · rw [upd_same, List.map_append]
        rfl
    rintro H11 ⟨hHI11, es, hde, hel⟩
    rw [enn] at hel
    have n1 := hHI.2.1.apart nde
    have hn0 := hHI.1.free hHI.2.1 nde
    have ecn : (n : Int) - 1 = ((n - 1 : Nat) : Int) := by omega
    have hlt : n - 1 < es.length := by omega
    refine ⟨_, rfl, _, rfl, _, _, rfl, rfl, de, es.map V.bl, (n : Int) - 1, n - 1, rfl, rfl, hde, by rw [ecn]; exact ixN_at (by rw [List.length_map]; exact hlt), ?_⟩
    obtain ⟨H14, eH14⟩ : ∃ H14, H14 = L2.upd H11 de (.lst ((es.map V.bl).set (n - 1) (.bl true))) := ⟨_, rfl⟩
    rw [← eH14]
    have hde14 : H14 de = some (.lst ((es.set (n - 1) true).map V.bl)) := by rw [eH14, upd_same, List.map_set]
    have hHI14 : HI (n - 1) (n - 1 + dd) ers H14 := by
      obtain ⟨a1, a2, a3, a4, a5⟩ := hHI11
      refine ⟨by rw [eH14]; exact a1.re hn0, by rw [eH14]; exact a2.re n1.1 n1.2, ?_, ⟨Paired.mapP a4.at_ fun v er ⟨d, e, nq, hd⟩ => ⟨d, e, nq, ?_⟩, a4.nd⟩, a5⟩
      · rw [eH14, upd_ne (ne_of_none hHI.2.2.1 nde)]
        exact a3
      · have : d ≠ de := ne_of hd hde (fun z => nomatch z)
        rw [eH14, upd_ne this]
        exact hd
    obtain ⟨b1, b2, b3, b4, b5⟩ := hHI14
    have b4l := plen b4.at_
    refine ⟨.ref dr, rfl, dr, rfl, ⟨_, SqL.of b3⟩, fun dt ndt => lc_it (walk_list (xs := rvs)) (fun i H15 => Same H14 H15 ∧ ∃ ts, H15 dt = some (.lst ts) ∧ Paired (RRow H15) ts ((ers.take i).map told)) ⟨same_upd ndt, [], upd_same, .nil⟩ (fun i H15 _ ⟨s15, _⟩ => SqL.of (s15 _ _ b3)) ?_ ?_⟩
    · rintro i yv H15 H16 hi ⟨s15, ts, hdt, hts⟩ ⟨rfl, hyi⟩
      obtain ⟨er, her, d, rfl, nq, hd14⟩ := pget b4.at_ hyi
      have herm := List.mem_of_getElem? her
      have hd := s15 _ _ hd14
      have ersm := b5.small er herm
      have tsl : ts.length ≤ 4 := by
        have := plen hts
        rw [List.length_map, List.length_take, b5.len] at this
        omega
      refine ⟨rfl, iteT (B := True) ⟨_, rfl, d, rowK er, er.map (·.1), rfl, .inl hd, by unfold rowK; rw [List.map_map, List.map_map]; rfl, by rw [List.length_map]; omega, fun vs' as' sl eas pm pr nsl => ?_⟩⟩
      have s17 := same_upd (o := .lst vs') nsl
      refine ⟨sl, rfl, ⟨_, SqL.of upd_same⟩, fun D7 nD7 => lc_it (walk_list (xs := vs')) (fun j H18 => Same (L2.upd H16 sl (.lst vs')) H18 ∧ ∃ ws, H18 D7 = some (.lst ws) ∧ Paired (RPr RAct RNat H18) ws ((as'.take j).map fun a => (a, valOf er a))) ⟨same_upd nD7, [], upd_same, .nil⟩ (fun j H18 _ ⟨s18, _⟩ => SqL.of (s18 _ _ upd_same)) ?_ ?_⟩
      · rintro j yv H18 H19 hj ⟨s18, ws, hD7, hws⟩ ⟨rfl, hyj⟩
        obtain ⟨a, ha, pa, rfl, hpa⟩ := pget pr hyj
        have s1718 := s17.trans s18
        have hpa19 := s1718 _ _ hpa
        have hd19 := s1718 _ _ hd
        have hin : a ∈ er.map (·.1) := pm.mem_iff.mp (List.mem_of_getElem? ha)
        refine ⟨rfl, iteT (B := True) ⟨_, rfl, _, rfl, _, rfl, d, _, rfl, by have h := DGet.t (k := actK a) hd19 hpa19; rw [rowK_at hin] at h; exact h, Nat.le_of_ble_eq_true rfl, fun tt ntt => ?_⟩⟩
        have nD : D7 ≠ tt := ne_of_none hD7 ntt
        have hD7' : (L2.upd H19 tt (.tup [.ref pa, .int (valOf er a : Int)])) D7 = some (.lst ws) := by rw [upd_ne nD]; exact hD7
        have wl : ws.length ≤ 1000 := by
          have h1 := plen hws
          have h2 := pm.length_eq
          rw [List.length_map, List.length_take] at h1
          rw [List.length_map] at h2
          omega
        have tF : TSm H19 (L2.upd (L2.upd H19 tt (.tup [.ref pa, .int (valOf er a : Int)])) D7 (.lst (ws ++ [.ref tt]))) := (TSm.new ntt).trans (TSm.re hD7' (fun _ => nofun))
        refine ⟨ws, hD7', by rw [sz]; omega, same_re (s18.trans (same_upd ntt)) nD7, _, upd_same, ?_⟩
        rw [take_snoc ha, List.map_append]
        exact psnoc ((RPr.tm RAct.tm RNat.tm).ps tF hws) ⟨tt, .ref pa, _, rfl, by rw [upd_ne nD.symm, upd_same], ⟨pa, rfl, tF _ _ hpa19⟩, rfl⟩
      · rintro H18 ⟨s18, ws, hD7, hws⟩
        have et : as'.take vs'.length = as' := by rw [plen pr]; exact List.take_length
        rw [et, eas] at hws
        refine ⟨D7, ws, rfl, .inl ⟨SqL.of hD7, fun tt ntt => ?_⟩⟩
        have s19 := (s17.trans s18).trans (same_upd (o := .tup ws) ntt)
        have hdt19 := s19 _ _ hdt
        have tF : TSm (L2.upd H18 tt (.tup ws)) (L2.upd (L2.upd H18 tt (.tup ws)) dt (.lst (ts ++ [.ref tt]))) := TSm.re hdt19 (fun _ => nofun)
        refine ⟨ts, hdt19, by rw [sz]; omega, same_re (s15.trans s19) ndt, _, upd_same, ?_⟩
        rw [take_snoc her, List.map_append]
        exact psnoc (RRow.tm.ps ((Same.ts s19).trans tF) hts) ⟨tt, ws, rfl, tF _ _ upd_same, (RPr.tm RAct.tm RNat.tm).ps ((TSm.new ntt).trans tF) hws⟩
    · rintro H15 ⟨s15, ts, hdt, hts⟩
      have et : ers.take rvs.length = ers := by rw [b4l]; exact List.take_length
      rw [et] at hts
      refine ⟨dt, ts, rfl, .inl ⟨SqL.of hdt, fun t1 nt1 => ?_⟩⟩
      have e1 := same_upd (o := .tup ts) nt1
      have hde15 := e1 _ _ (s15 _ _ hde14)
      refine ⟨_, rfl, de, _, rfl, .inl ⟨SqL.of hde15, fun t2 nt2 => ⟨Nat.le_of_ble_eq_true rfl, fun t3 nt3 => ?_⟩⟩⟩
      have e2 := e1.trans (same_upd (o := .tup ((es.set (n - 1) true).map V.bl)) nt2)
      have e3 := e2.trans (same_upd (o := .tup [.str "table", .ref t1, .ref t2]) nt3)
      have s14 := s15.trans e3
      have rF := b2.same s14
      have sF := b1.trans (SB.of s14)
      have hfree : H t3 = none := (b1.trans (SB.of (s15.trans e2))).free (b2.same (s15.trans e2)) nt3
      refine q1 _ t3 ⟨ers.map told, es.set (n - 1) true⟩ sF rF hfree ⟨t3, .ref t1, .ref t2, rfl, upd_same, ⟨t1, ts, rfl, ?_, pmono hts fun _ _ z => RRow.mono _ _ _ _ e3 z⟩, ⟨t2, _, rfl, same_upd nt3 _ _ upd_same, blp⟩⟩ ?_
      · exact same_upd nt3 _ _ (same_upd nt2 _ _ upd_same)
      · exact tab_of b5 (by omega) (by omega) (by rw [List.length_set]; exact hel) (by rw [getD_set hlt, if_pos rfl])
end
end PL
namespace PL
open PySem PySem.Spec PyProof.Rows L2
abbrev sStp : Stmt := topS 41
abbrev nStp : List Str := ["_law_table_here", "_law_state_here", "_law_action", "_law_other", "_law_goal"]
theorem scStp : FnScope nStp ["_law_table_here", "_law_state_here", "_law_action"] (defScope sStp) := ⟨rfl, rfl, rfl, by decide +kernel, rfl, by decide +kernel, by decide +kernel⟩
theorem inV_int (s : Nat) (ks : List Nat) : inV (.int (s : Int)) (ks.map fun n : Nat => V.int (n : Int)) = true ↔ s ∈ ks := by
  unfold inV
  rw [List.any_map, List.any_eq_true]
  constructor
  · rintro ⟨x, hx, e⟩
    have e : ((x : Int) == (s : Int)) = true := e
    have : (x : Int) = (s : Int) := by simpa using e
    have : x = s := by omega
    exact this ▸ hx
  · intro h
    exact ⟨s, h, by show ((s : Int) == (s : Int)) = true; simp⟩
theorem flat_ints (ks : List Nat) : (ks.map fun n : Nat => V.int (n : Int)).all flatV = true := by
  rw [List.all_map, List.all_eq_true]
  intro x _
  rfl
theorem inV_two (p a b : Str) : inV (.str p) [.str a, .str b] = (decide (a = p) || decide (b = p)) := by
  unfold inV
  simp only [List.any_cons, List.any_nil, Bool.or_false]
  show ((a == p) || (b == p)) = _
  rw [Bool.beq_eq_decide_eq, Bool.beq_eq_decide_eq]
abbrev sLun : Stmt := topS 44
abbrev nLun : List Str := ["_law_table_here", "_law_states", "_law_party", "_law_found", "_law_waiting", "_law_k", "_law_state_here", "_law_action", "_law_goal"]
theorem scLun : FnScope nLun ["_law_table_here", "_law_states", "_law_party"] (defScope sLun) := ⟨rfl, rfl, rfl, by decide +kernel, rfl, by decide +kernel, by decide +kernel⟩
def spLun : Sp := fun vs H Q _ => ∃ x T p, ∃ (d : Addr) (ss : List Nat), vs = [x, .ref d, .str p] ∧ RTbl H x T ∧ T.OK ∧ T.rows.length ≤ 60 ∧ (∀ r ∈ T.rows, r.length ≤ 100) ∧ H d = some (.lst (ss.map fun n : Nat => V.int (n : Int))) ∧ (∀ s ∈ ss, s < T.rows.length) ∧ ss.length ≤ 1000 ∧
  ∀ (H' : Hp) (q : Addr) (l : List Nat), Same H H' → H q = none → H' q = some (.lst (l.map fun n : Nat => V.int (n : Int))) → Asc l → (∀ g, g ∈ l ↔ ∃ s ∈ ss, UR T p s g) → Q (.ref q) H'
abbrev sLse : Stmt := topS 45
abbrev nLse : List Str := ["_law_table_here", "_law_states", "_law_party", "_law_action", "_law_goals", "_law_state_here", "_law_goal"]
theorem scLse : FnScope nLse ["_law_table_here", "_law_states", "_law_party", "_law_action"] (defScope sLse) := ⟨rfl, rfl, rfl, by decide +kernel, rfl, by decide +kernel, by decide +kernel⟩
def spLse : Sp := fun vs H Q _ => ∃ x y T p a, ∃ (d : Addr) (ss : List Nat), vs = [x, .ref d, .str p, y] ∧ RTbl H x T ∧ T.OK ∧ T.rows.length ≤ 60 ∧ (∀ r ∈ T.rows, r.length ≤ 100) ∧ H d = some (.lst (ss.map fun n : Nat => V.int (n : Int))) ∧ (∀ s ∈ ss, s < T.rows.length) ∧ ss.length ≤ 1000 ∧ RAct H y a ∧
  ∀ (H' : Hp) (q : Addr) (l : List Nat), Same H H' → H q = none → H' q = some (.lst (l.map fun n : Nat => V.int (n : Int))) → Asc l → (∀ g, g ∈ l ↔ ∃ s ∈ ss, ∃ g0, T.next s a = some g0 ∧ UR T p g0 g) → Q (.ref q) H'
theorem UR.lt {T : Tbl} (hok : T.OK) {p : Str} {s g : Nat} (hs : s < T.rows.length) (h : UR T p s g) : g < T.rows.length := by
  obtain ⟨u, _, h⟩ := h
  have h0 : ∀ (r : List Act) (t s : Nat), t < T.rows.length → T.walkF t r = some s → s < T.rows.length := by
    intro r
    induction r with
    | nil => intro t s ht e; cases e; exact ht
    | cons a r ih =>
      intro t s ht e
      simp only [Tbl.walkF] at e
      cases h : T.next t a with
      | none => rw [h] at e; cases e
      | some g => rw [h] at e; exact ih g s (hok.inb.next h) e
  exact h0 u s g hs h
section
variable {P : Program} {w : World} {K : PySem.W.Frag} {mg : Str → Option Value} {base : Heap}
theorem ok_stp {f : Addr} {fd : FuncData} {k : Nat} (F : Fun K "_law_step" "_law_step" sStp f fd) : FnOk P w K mg base CX0 (k + 1) f fd ["_law_table_here", "_law_state_here", "_law_action"] spNext := by
  refine F.ok scStp (fun vs H Q E h => ?_) (fun cdv A outer s H vs Q E hr h => ?_)
  · obtain ⟨t, x, T, s, a, rfl, _⟩ := h
    rfl
  · obtain ⟨t, x, T, s, a, rfl, hT, hs, hx, q⟩ := h
    refine ⟨_, pss_cons (ps_for PassesOwn.never rfl (pi_tup (pe_ix ix_tup (pe_ix ix_tup (pv 0) pe_int (fun _ _ => rfl)) (pv 1) (fun _ _ => rfl)))
        (pg_tup rfl (pgs_cons (pg_name (i := 3) scStp.nd rfl (.inl rfl)) (pgs_cons (pg_name (i := 4) scStp.nd rfl (.inl rfl)) pgs_nil)))
        (pss_one (ps_if (pt_cmpR (op_eqA hr.units) (pv 3) (pv 2) (nomark _)) (pss_one (ps_ret (pv 4))) pss_nil)))
      (pss_one (ps_ret pe_non)), ?_⟩
    obtain ⟨p, vr, ve, rfl, hp, ⟨pr, vrs, rfl, hpr, prs⟩, _⟩ := hT
    obtain ⟨row, hrow⟩ : ∃ row, T.rows[s]? = some row := ⟨_, List.getElem?_eq_getElem hs⟩
    obtain ⟨rv, hrv, p1, vs1, rfl, hp1, prow⟩ := pget' prs hrow
    have enx : T.next s a = look row a := by simp [Tbl.next, hrow]
    refine ⟨.ref p, rfl, p, _, _, .ref pr, rfl, rfl, SqT.of hp, atI_nat (j := 1) rfl, _, rfl, pr, _, _, _, rfl, rfl, SqT.of hpr, atI_nat hrv, p1, rfl, ⟨_, SqT.of hp1⟩, ?_⟩
    refine for_it (walk_tup (xs := vs1)) (fun i σ H' => H' = H ∧ look (row.take i) a = none ∧ ∃ y3 y4, σ = [some (.ref p), some (.int (s : Nat)), some x, y3, y4]) ⟨rfl, rfl, none, none, rfl⟩ (fun i σ H' _ ⟨e, _⟩ => by subst e; exact SqT.of hp1) ?_ ?_
    · rintro i y σ H' H'' hi ⟨rfl, hl, y3, y4, rfl⟩ ⟨rfl, hy⟩
      obtain ⟨pr1, hpr1, p2, va, vb, rfl, hp2, hva, hvb⟩ := pget prow hy
      refine ⟨p2, _, rfl, SqT.of hp2, rfl, va, _, rfl, vb, _, rfl, rfl, ?_⟩
      refine ⟨va, rfl, x, rfl, pr1.1, a, hva, hx, _, rfl, ite2 (fun e => ?_) (fun e => ?_)⟩
      · have e := of_decide_eq_true e
        refine ⟨vb, rfl, ?_⟩
        rw [enx, look_found hl hpr1 e] at q
        cases (show vb = V.int _ from hvb)
        exact q
      · refine ⟨rfl, ?_, _, _, rfl⟩
        rw [look_split hl hpr1, if_neg]
        exact fun z => e (decide_eq_true z)
    · rintro σ H' ⟨rfl, hl, y3, y4, rfl⟩
      have : row.take vs1.length = row := by rw [plen prow]; exact List.take_length
      rw [this] at hl
      rw [enx, hl] at q
      exact q
theorem ok_lun {f : Addr} {fd : FuncData} {k : Nat} (F : Fun K "_law_unseen" "_law_unseen" sLun f fd) (mLi : mg "list" = none) (mR : mg "range" = none) (mS : mg "sorted" = none) : FnOk P w K mg base CX0 (k + 1) f fd ["_law_table_here", "_law_states", "_law_party"] spLun := by
  refine F.ok scLun (fun vs H Q E h => ?_) (fun cdv A outer s0 H vs Q E hr h => ?_)
  · obtain ⟨x, T, p, d, ss, rfl, _⟩ := h
    rfl
  · obtain ⟨x, T, p, d, ss, rfl, hT, hok, h60, hrl, hd, hss, hsl, q⟩ := h
    have nd := scLun.nd
    refine ⟨_, pss_cons (ps_set (i := 3) nd rfl (.inl rfl) (pe_lst pa_nil))
      (pss_cons (ps_set (i := 4) nd rfl (.inl rfl) (pe_callTy call_list_of (by rfl) mLi (by decide +kernel) (pa_cons (pv 1) pa_nil)))
      (pss_cons (ps_for PassesOwn.never rfl (pi_range1 (by rfl) mR (pa_cons pe_int pa_nil)) (pg_name (i := 5) nd rfl (.inl rfl))
        (pss_cons (ps_if (pt_not (pt_truth (pv 4) (by intro _; rfl))) (pss_one (ps_ret (pe_callB cr_sortedI (by rfl) mS (by decide +kernel) (pa_cons (pv 3) pa_nil)))) pss_nil)
        (pss_cons (ps_set (i := 6) nd rfl (.inl rfl) (pe_bm0 PySem.F.plainAttrs_list PySem.F.slot_list_pop PySem.F.type_list_pop mt_pop (pv 4)))
        (pss_one (ps_if (pt_cmpR op_notIn_seq (pv 6) (pv 3) (by rfl))
          (pss_cons (ps_expr (pe_bm PySem.F.plainAttrs_list PySem.F.slot_list_append PySem.F.type_list_append mt_append (pv 3) (pa_cons (pv 6) pa_nil)))
          (pss_one (ps_for PassesOwn.never rfl (pi_tup (pe_ix ix_tup (pe_ix ix_tup (pv 0) pe_int (fun _ _ => rfl)) (pv 6) (fun _ _ => rfl))) (pg_tup rfl (pgs_cons (pg_name (i := 7) nd rfl (.inl rfl)) (pgs_cons (pg_name (i := 8) nd rfl (.inl rfl)) pgs_nil)))
            (pss_one (ps_if (pt_cmpR op_notIn_seq (pv 2) (pe_lst (pa_cons (pe_ix ix_tup (pv 7) pe_int (fun _ _ => rfl)) (pa_cons (pe_ix ix_tup (pv 7) pe_int (fun _ _ => rfl)) pa_nil))) (by rfl)) (pss_one (ps_expr (pe_bm PySem.F.plainAttrs_list PySem.F.slot_list_append PySem.F.type_list_append mt_append (pv 4) (pa_cons (pv 8) pa_nil)))) pss_nil))))) pss_nil)))))
      (pss_one (ps_ret (pe_callB cr_sortedI (by rfl) mS (by decide +kernel) (pa_cons (pv 3) pa_nil)))))), ?_⟩
    have sz := sizeLine_eq
    obtain ⟨pt, vr, ve, rfl, hpt, ⟨pr, vrs, rfl, hpr, prs⟩, _⟩ := id hT
    refine ⟨Nat.le_of_ble_eq_true rfl, fun df ndf => ?_⟩
    have s1 := same_upd (o := .lst []) ndf
    refine ⟨_, rfl, d, _, rfl, .inl (SqL.of (s1 _ _ hd)), fun dw ndw => ?_⟩
    have s2 := s1.trans (same_upd (o := .lst (ss.map fun n : Nat => V.int (n : Int))) ndw)
    have nfw : df ≠ dw := fun e => by rw [← e, upd_same] at ndw; cases ndw
    have h0w : H dw = none := s1.free ndw
    let Clo : List Nat → List Nat → Nat → Prop := fun ks ws c => ∀ a g, conc a p = false → T.next c a = some g → g ∈ ks ∨ g ∈ ws
    -- found ks, waiting ws, at step k
    let St1 : Nat → List Nat → List Nat → Hp → Prop := fun m ks ws H' => Same H H' ∧ H' df = some (.lst (ks.map fun n : Nat => V.int (n : Int))) ∧ H' dw = some (.lst (ws.map fun n : Nat => V.int (n : Int))) ∧ ks.Nodup ∧ (∀ g ∈ ks, ∃ s ∈ ss, UR T p s g) ∧ (∀ g ∈ ws, ∃ s ∈ ss, UR T p s g) ∧
      (∀ s ∈ ss, s ∈ ks ∨ s ∈ ws) ∧ m + ws.length ≤ ss.length + 100 * ks.length
    have fin : ∀ {m : Nat} {ks : List Nat} {H' : Hp}, St1 m ks [] H' → (∀ c ∈ ks, Clo ks [] c) → ∀ (zs : List Int) (l : Addr), zs.Perm (toI ks) → zs.Pairwise (· ≤ ·) → H' l = none → Q (.ref l) (L2.upd H' l (.lst (zs.map V.int))) := by
      intro m ks H' ⟨sm, _, _, knd, kur, _, kss, _⟩ hclo zs l pm asc nl
      obtain ⟨ns, en⟩ := nats_of (l := zs) fun z hz => by
        obtain ⟨n, _, e⟩ := toI_mem.mp (pm.mem_iff.mp hz)
        omega
      have znd : zs.Nodup := pm.nodup_iff.mpr (map_nodup (fun a b e => by omega) knd)
      have mem : ∀ g, g ∈ ns ↔ g ∈ ks := fun g => by
        have h1 : ∀ l : List Nat, ((g : Nat) : Int) ∈ l.map (fun n : Nat => (n : Int)) ↔ g ∈ l := fun l => by
          rw [List.mem_map]
          exact ⟨fun ⟨m, h, e⟩ => by rw [show g = m by omega]; exact h, fun h => ⟨g, h, rfl⟩⟩
        have h2 := pm.mem_iff (a := (g : Int))
        rw [en, h1] at h2
        exact h2.trans (h1 ks)
      refine q _ l ns (sm.trans (same_upd nl)) (sm.free nl) ?_ (asc_of asc znd en) fun g => ?_
      · rw [upd_same, en, List.map_map]
        rfl
      · rw [mem]
        refine ⟨kur g, fun ⟨s, hs, u, h1, h2⟩ => ?_⟩
        have hsk : s ∈ ks := (kss s hs).resolve_right (by simp)
        exact UR.closed (fun c hc a g ha hg => (hclo c hc a g ha hg).resolve_right (by simp)) hsk h1 h2
    refine ⟨100000, rfl, by decide, by decide, for_it walk_rg (fun k σ H7 => ∃ ks ws y5 y6 y7 y8, σ = [some (.ref pt), some (.ref d), some (.str p), some (.ref df), some (.ref dw), y5, y6, y7, y8] ∧ St1 k ks ws H7 ∧ ∀ c ∈ ks, Clo ks ws c)
      ⟨[], ss, none, none, none, none, rfl, ⟨s2, by rw [upd_ne nfw]; exact upd_same, upd_same, List.nodup_nil, by simp, fun g hg => ⟨g, hg, UR.self⟩, fun s hs => .inr hs, by simp⟩, by simp⟩ (fun _ _ _ _ _ => trivial) ?_ ?_⟩
    · rintro k yv σ H7 H8 hk ⟨ks, ws, y5, y6, y7, y8, rfl, hSt, hclo⟩ ⟨rfl, rfl⟩
      obtain ⟨sm, hdf, hdw, knd, kur, wur, kss, cnt⟩ := id hSt
      have kl : ks.length ≤ T.rows.length := lt_len knd fun g hg => by
        obtain ⟨s, hs, h⟩ := kur g hg
        exact h.lt hok (hss s hs)
      refine ⟨_, rfl, _, .inl ⟨_, SqL.of hdw, rfl⟩, ?_⟩
      cases hws : ws with
      | nil =>
        subst hws
        refine iteT ?_
        refine ⟨_, rfl, df, toI ks, rfl, SqL.of (by rw [toI_V]; exact hdf), fun zs l pm asc nl => fin hSt hclo zs l pm asc nl⟩
      | cons w0 wr =>
        rw [← hws]
        have hne : ws ≠ [] := by rw [hws]; simp
        have ht : (!!(ws.map fun n : Nat => V.int (n : Int)).isEmpty) = false := by rw [hws]; rfl
        rw [ht]
        refine iteF ?_
        obtain ⟨ws', c, ews⟩ : ∃ ws' c, ws = ws' ++ [c] := ⟨ws.dropLast, ws.getLast hne, (List.dropLast_concat_getLast hne).symm⟩
        have hlast : (ws.map fun n : Nat => V.int (n : Int))[(ws.map fun n : Nat => V.int (n : Int)).length - 1]? = some (.int (c : Int)) := by rw [ews]; simp
        have hdrop : (ws.map fun n : Nat => V.int (n : Int)).dropLast = ws'.map fun n : Nat => V.int (n : Int) := by rw [ews]; simp
        obtain ⟨s, hs, hsc⟩ := wur c (by rw [ews]; simp)
        have hcl : c < T.rows.length := hsc.lt hok (hss s hs)
        have wl : ws.length = ws'.length + 1 := by rw [ews]; simp
        refine ⟨.ref dw, rfl, .inl ⟨rfl, _, .inl (.inl hdw)⟩, dw, _, _, rfl, rfl, hdw, hlast, ?_⟩
        rw [hdrop]
        have sm' : Same H (L2.upd H8 dw (.lst (ws'.map fun n : Nat => V.int (n : Int)))) := same_re sm h0w
        have hdf' : (L2.upd H8 dw (.lst (ws'.map fun n : Nat => V.int (n : Int)))) df = some (.lst (ks.map fun n : Nat => V.int (n : Int))) := by rw [upd_ne nfw]; exact hdf
        have h0f : H df = none := ndf
        refine ⟨_, rfl, _, rfl, df, _, rfl, .inl (SqL.of hdf'), rfl, flat_ints ks, _, rfl, ite2 (fun e => ?_) (fun e => ?_)⟩
        · have e : (!inV (.int (c : Int)) (ks.map fun n : Nat => V.int (n : Int))) = true := e
          have hnew : c ∉ ks := fun z => by rw [(inV_int c ks).mpr z] at e; cases e
          have kl1 : ks.length + 1 ≤ T.rows.length := by
            have := lt_len (l := ks ++ [c]) (n := T.rows.length) (List.nodup_append.mpr ⟨knd, by simp, fun a ha b hb e2 => by
              have : b = c := by simpa using hb
              subst this
              exact hnew (by rw [← e2]; exact ha)⟩) fun g hg => by
                rcases List.mem_append.mp hg with hg | hg
                · obtain ⟨s, hs, h⟩ := kur g hg
                  exact h.lt hok (hss s hs)
                · have : g = c := by simpa using hg
                  exact this ▸ hcl
            simpa using this
          refine ⟨.ref df, rfl, .inl ⟨rfl, _, .inl (.inl hdf')⟩, _, rfl, df, _, _, rfl, rfl, hdf', by rw [List.length_map, sz]; omega, ?_⟩
          obtain ⟨H9, eH9⟩ : ∃ H9, H9 = L2.upd (L2.upd H8 dw (.lst (ws'.map fun n : Nat => V.int (n : Int)))) df (.lst ((ks.map fun n : Nat => V.int (n : Int)) ++ [.int (c : Int)])) := ⟨_, rfl⟩
          rw [← eH9]
          have s9 : Same H H9 := by rw [eH9]; exact same_re sm' h0f
          have hdf9 : H9 df = some (.lst ((ks ++ [c]).map fun n : Nat => V.int (n : Int))) := by rw [eH9, upd_same, List.map_append]; rfl
          have hdw9 : H9 dw = some (.lst (ws'.map fun n : Nat => V.int (n : Int))) := by rw [eH9, upd_ne nfw.symm, upd_same]
          obtain ⟨row, hrow⟩ : ∃ row, T.rows[c]? = some row := ⟨_, List.getElem?_eq_getElem hcl⟩
          have hrm : row ∈ T.rows := List.mem_of_getElem? hrow
          have hrl1 := hrl row hrm
          obtain ⟨rv, hrv, p5, vs5, rfl, hp5, prow⟩ := pget' prs hrow
          refine ⟨.ref pt, rfl, pt, _, _, .ref pr, rfl, rfl, SqT.of (s9 _ _ hpt), atI_nat (j := 1) rfl, _, rfl, pr, _, _, .ref p5, rfl, rfl, SqT.of (s9 _ _ hpr), atI_nat hrv, p5, rfl, ⟨_, SqT.of (s9 _ _ hp5)⟩,
            for_it (walk_tup (xs := vs5)) (fun j σ H2 => ∃ ws2 y7 y8, σ = [some (.ref pt), some (.ref d), some (.str p), some (.ref df), some (.ref dw), some (.int (k : Int)), some (.int (c : Int)), y7, y8] ∧ Same H H2 ∧ H2 df = some (.lst ((ks ++ [c]).map fun n : Nat => V.int (n : Int))) ∧ H2 dw = some (.lst ((ws' ++ ws2).map fun n : Nat => V.int (n : Int))) ∧ ws2.length ≤ j ∧
                (∀ g ∈ ws2, ∃ s ∈ ss, UR T p s g) ∧ ∀ x ∈ row.take j, conc x.1 p = false → x.2 ∈ ws2)
            ⟨[], _, _, rfl, s9, hdf9, by rw [List.append_nil]; exact hdw9, Nat.le_refl _, by simp, by simp⟩ ?_ ?_ ?_⟩
          · rintro j σ H2 _ ⟨_, _, _, _, s2, _⟩
            exact SqT.of (s2 _ _ hp5)
          · rintro j yv σ H2 H3 hj ⟨ws2, y7, y8, rfl, s2, hf2, hw2, wl2, wu2, hdone⟩ ⟨rfl, hyj⟩
            obtain ⟨pq, hpq, p6, va, vb, rfl, hp6, ⟨pa, rfl, hpa⟩, hvb⟩ := pget prow hyj
            have hb : vb = .int (pq.2 : Int) := hvb
            subst hb
            have hj1 : j < 100 := by rw [plen prow] at hj; omega
            refine ⟨p6, _, rfl, SqT.of (s2 _ _ hp6), rfl, _, _, rfl, _, _, rfl, rfl, ?_⟩
            refine ⟨_, rfl, _, rfl, pa, _, _, .str pq.1.1, rfl, rfl, SqT.of (s2 _ _ hpa), atI_nat (j := 0) rfl, _, rfl, pa, _, _, .str pq.1.2.1, rfl, rfl, SqT.of (s2 _ _ hpa), atI_nat (j := 1) rfl, Nat.le_of_ble_eq_true rfl, fun l2 nl2 => ?_⟩
            have sL := same_upd (o := .lst [.str pq.1.1, .str pq.1.2.1]) nl2
            have hf3 := sL _ _ hf2
            have hw3 := sL _ _ hw2
            have hin := inV_two p pq.1.1 pq.1.2.1
            refine ⟨l2, _, rfl, .inl (SqL.of upd_same), rfl, rfl, _, rfl, ite2 (fun e => ?_) (fun e => ?_)⟩
            · have e : (!inV (.str p) [.str pq.1.1, .str pq.1.2.1]) = true := e
              have hc : conc pq.1 p = false := by
                rw [hin] at e
                cases h : conc pq.1 p with
                | false => rfl
                | true => unfold conc at h; rw [h] at e; cases e
              refine ⟨.ref dw, rfl, .inl ⟨rfl, _, .inl (.inl hw3)⟩, _, rfl, dw, _, _, rfl, rfl, hw3, by rw [List.length_map, List.length_append, sz]; omega, ?_⟩
              have hnx := hok.next_of hrow (List.mem_of_getElem? hpq)
              refine ⟨ws2 ++ [pq.2], _, _, rfl, same_re (s2.trans sL) h0w, by rw [upd_ne nfw]; exact hf3, by rw [upd_same, ← List.append_assoc, List.map_append (l₁ := ws' ++ ws2)]; rfl, by rw [List.length_append, List.length_singleton]; omega, fun g hg => ?_, fun x hx hcx => ?_⟩
              · rcases List.mem_append.mp hg with hg | hg
                · exact wu2 g hg
                · have : g = pq.2 := by simpa using hg
                  subst this
                  exact ⟨s, hs, hsc.more hc hnx⟩
              · rw [take_snoc hpq] at hx
                rcases List.mem_append.mp hx with hx | hx
                · exact List.mem_append_left _ (hdone x hx hcx)
                · have : x = pq := by simpa using hx
                  subst this
                  exact List.mem_append_right _ (by simp)
            · refine ⟨ws2, _, _, rfl, s2.trans sL, hf3, hw3, by omega, wu2, fun x hx hcx => ?_⟩
              rw [take_snoc hpq] at hx
              rcases List.mem_append.mp hx with hx | hx
              · exact hdone x hx hcx
              · have : x = pq := by simpa using hx
                subst this
                refine absurd ?_ e
                show (!inV (.str p) [.str x.1.1, .str x.1.2.1]) = true
                rw [hin]
                unfold conc at hcx
                rw [hcx]
                rfl
          · rintro σ H2 ⟨ws2, y7, y8, rfl, s2, hf2, hw2, wl2, wu2, hdone⟩
            have et : row.take vs5.length = row := by rw [plen prow]; exact List.take_length
            rw [et] at hdone
            have el5 : vs5.length = row.length := plen prow
            refine ⟨ks ++ [c], ws' ++ ws2, _, _, _, _, rfl, ⟨s2, hf2, hw2, List.nodup_append.mpr ⟨knd, by simp, fun a ha b hb e2 => ?_⟩, fun g hg => ?_, fun g hg => ?_, fun s hs => ?_, ?_⟩, fun z hz a g ha hg => ?_⟩
            · have : b = c := by simpa using hb
              subst this
              exact hnew (by rw [← e2]; exact ha)
            · rcases List.mem_append.mp hg with hg | hg
              · exact kur g hg
              · have : g = c := by simpa using hg
                subst this
                exact ⟨s, hs, hsc⟩
            · rcases List.mem_append.mp hg with hg | hg
              · exact wur g (by rw [ews]; exact List.mem_append_left _ hg)
              · exact wu2 g hg
            · rcases kss s hs with h | h
              · exact .inl (List.mem_append_left _ h)
              · rw [ews] at h
                rcases List.mem_append.mp h with h | h
                · exact .inr (List.mem_append_left _ h)
                · exact .inl (List.mem_append_right _ h)
            · rw [List.length_append, List.length_append, List.length_singleton]
              omega
            · rcases List.mem_append.mp hz with hz | hz
              · rcases hclo z hz a g ha hg with h | h
                · exact .inl (List.mem_append_left _ h)
                · rw [ews] at h
                  rcases List.mem_append.mp h with h | h
                  · exact .inr (List.mem_append_left _ h)
                  · exact .inl (List.mem_append_right _ h)
              · have : z = c := by simpa using hz
                subst this
                obtain ⟨row', w1, w2⟩ := Tbl.OK.of_next hg
                rw [hrow] at w1
                cases w1
                exact .inr (List.mem_append_right _ (hdone _ w2 ha))
        · have e : ¬ (!inV (.int (c : Int)) (ks.map fun n : Nat => V.int (n : Int))) = true := e
          have hin : c ∈ ks := by
            refine (inV_int c ks).mp ?_
            cases h : inV (.int (c : Int)) (ks.map fun n : Nat => V.int (n : Int)) with
            | true => rfl
            | false => rw [h] at e; exact absurd rfl e
          refine ⟨ks, ws', _, _, _, _, rfl, ⟨sm', hdf', upd_same, knd, kur, fun g hg => wur g (by rw [ews]; exact List.mem_append_left _ hg), fun s hs => ?_, by omega⟩, fun z hz a g ha hg => ?_⟩
          · rcases kss s hs with h | h
            · exact .inl h
            · rw [ews] at h
              rcases List.mem_append.mp h with h | h
              · exact .inr h
              · have : s = c := by simpa using h
                exact .inl (this ▸ hin)
          · rcases hclo z hz a g ha hg with h | h
            · exact .inl h
            · rw [ews] at h
              rcases List.mem_append.mp h with h | h
              · exact .inr h
              · have : g = c := by simpa using h
                exact .inl (this ▸ hin)
    · rintro σ H7 ⟨ks, ws, y5, y6, y7, y8, rfl, hSt, hclo⟩
      obtain ⟨sm, hdf, hdw, knd, kur, wur, kss, cnt⟩ := hSt
      have kl : ks.length ≤ T.rows.length := lt_len knd fun g hg => by
        obtain ⟨s, hs, h⟩ := kur g hg
        exact h.lt hok (hss s hs)
      have e1 : (100000 : Int).toNat = 100000 := rfl
      rw [e1] at cnt
      omega
theorem ok_lse {f fS fU : Addr} {fd fdS fdU : FuncData} {k : Nat} (F : Fun K "_law_seen" "_law_seen" sLse f fd)
    (GS : FnOk P w K mg base CX0 k fS fdS ["_law_table_here", "_law_state_here", "_law_action"] spNext) (kS : PySem.W.keepIn K (.ref fS) = true) (bS : Binds K fdS ["_law_table_here", "_law_state_here", "_law_action"] []) (gS : mg "_law_step" = some (.ref fS))
    (GU : FnOk P w K mg base CX0 k fU fdU ["_law_table_here", "_law_states", "_law_party"] spLun) (kU : PySem.W.keepIn K (.ref fU) = true) (bU : Binds K fdU ["_law_table_here", "_law_states", "_law_party"] []) (gU : mg "_law_unseen" = some (.ref fU)) : FnOk P w K mg base CX0 (k + 1) f fd ["_law_table_here", "_law_states", "_law_party", "_law_action"] spLse := by
  refine F.ok scLse (fun vs H Q E h => ?_) (fun cdv A outer s0 H vs Q E hr h => ?_)
  · obtain ⟨x, y, T, p, a, d, ss, rfl, _⟩ := h
    rfl
  · obtain ⟨x, y, T, p, a, d, ss, rfl, hT, hok, h60, hrl, hd, hss, hsl, hy, q⟩ := h
    have nd := scLse.nd
    refine ⟨_, pss_cons (ps_set (i := 4) nd rfl (.inl rfl) (pe_lst pa_nil))
      (pss_cons (ps_for PassesOwn.never rfl (pi_list (pv 1)) (pg_name (i := 5) nd rfl (.inl rfl))
        (pss_cons (ps_set (i := 6) nd rfl (.inl rfl) (pe_call GS hr (by rfl) gS kS bS .nil pass0 (pa_cons (pv 0) (pa_cons (pv 5) (pa_cons (pv 3) pa_nil)))))
        (pss_one (ps_if (pt_cmp (pc_notN (pv 6))) (pss_one (ps_expr (pe_bm PySem.F.plainAttrs_list PySem.F.slot_list_append PySem.F.type_list_append mt_append (pv 4) (pa_cons (pv 6) pa_nil)))) pss_nil))))
      (pss_one (ps_ret (pe_call GU hr (by rfl) gU kU bU .nil pass0 (pa_cons (pv 0) (pa_cons (pv 4) (pa_cons (pv 2) pa_nil))))))), ?_⟩
    have sz := sizeLine_eq
    refine ⟨Nat.le_of_ble_eq_true rfl, fun dg ndg => ?_⟩
    have s1 := same_upd (o := .lst []) ndg
    refine ⟨.ref d, rfl, d, rfl, ⟨_, SqL.of (s1 _ _ hd)⟩, for_it (walk_list (xs := ss.map fun n : Nat => V.int (n : Int))) (fun i σ H7 => ∃ gs y5 y6, σ = [some x, some (.ref d), some (.str p), some y, some (.ref dg), y5, y6] ∧ Same H H7 ∧ H7 dg = some (.lst (gs.map fun n : Nat => V.int (n : Int))) ∧ gs.length ≤ i ∧ ∀ g, g ∈ gs ↔ ∃ s ∈ ss.take i, T.next s a = some g)
      ⟨[], none, none, rfl, s1, upd_same, Nat.le_refl _, by simp⟩ (fun i σ H7 _ ⟨_, _, _, _, sm, _⟩ => SqL.of (sm _ _ hd)) ?_ ?_⟩
    · rintro i yv σ H7 H8 hi ⟨gs, y5, y6, rfl, sm, hdg, hgl, hm⟩ ⟨rfl, hyi⟩
      obtain ⟨s, hs, rfl⟩ : ∃ n, ss[i]? = some n ∧ yv = .int ((n : Nat) : Int) := by
        rw [List.getElem?_map] at hyi
        cases e : ss[i]? with
        | none => rw [e] at hyi; cases hyi
        | some n => rw [e] at hyi; exact ⟨n, rfl, (Option.some.inj hyi).symm⟩
      rw [List.length_map] at hi
      refine ⟨_, rfl, _, rfl, _, rfl, x, y, T, s, a, rfl, RTbl.mono _ _ _ _ sm hT, hss s (List.mem_of_getElem? hs), RAct.mono _ _ _ _ sm hy, ?_⟩
      cases e : T.next s a with
      | none =>
        refine ⟨_, rfl, _, rfl, iteF ⟨gs, _, _, rfl, sm, hdg, by omega, fun g => ?_⟩⟩
        rw [hm, take_snoc hs]
        constructor
        · rintro ⟨s', h1, h2⟩
          exact ⟨s', List.mem_append_left _ h1, h2⟩
        · rintro ⟨s', h1, h2⟩
          rcases List.mem_append.mp h1 with h1 | h1
          · exact ⟨s', h1, h2⟩
          · have : s' = s := by simpa using h1
            subst this
            rw [e] at h2
            cases h2
      | some g0 =>
        refine ⟨_, rfl, _, rfl, ite2 (fun _ => ?_) (fun z => absurd rfl z)⟩
        refine ⟨.ref dg, rfl, .inl ⟨rfl, _, .inl (.inl hdg)⟩, _, rfl, dg, _, _, rfl, rfl, hdg, by rw [List.length_map, sz]; omega, ?_⟩
        refine ⟨gs ++ [g0], _, _, rfl, same_re sm ndg, by rw [upd_same, List.map_append]; rfl, by rw [List.length_append, List.length_singleton]; omega, fun g => ?_⟩
        rw [List.mem_append, hm, take_snoc hs, List.mem_singleton]
        constructor
        · rintro (⟨s', h1, h2⟩ | rfl)
          · exact ⟨s', List.mem_append_left _ h1, h2⟩
          · exact ⟨s, List.mem_append_right _ (by simp), e⟩
        · rintro ⟨s', h1, h2⟩
          rcases List.mem_append.mp h1 with h1 | h1
          · exact .inl ⟨s', h1, h2⟩
          · have : s' = s := by simpa using h1
            subst this
            rw [e] at h2
            exact .inr (Option.some.inj h2).symm
    · rintro σ H7 ⟨gs, y5, y6, rfl, sm, hdg, hgl, hm⟩
      rw [List.length_map, List.take_length] at hm
      rw [List.length_map] at hgl
      refine ⟨_, rfl, _, rfl, _, rfl, x, T, p, dg, gs, rfl, RTbl.mono _ _ _ _ sm hT, hok, h60, hrl, hdg, fun g hg => ?_, by omega, fun H' q' l s' nq hl al hml => ?_⟩
      · obtain ⟨s, hs, e⟩ := (hm g).mp hg
        exact hok.inb.next e
      · refine q H' q' l (sm.trans s') (sm.free nq) hl al fun g => ?_
        rw [hml]
        constructor
        · rintro ⟨g0, h1, h2⟩
          obtain ⟨s, hs, e⟩ := (hm g0).mp h1
          exact ⟨s, hs, g0, e, h2⟩
        · rintro ⟨s, hs, g0, e, h2⟩
          exact ⟨g0, (hm g0).mpr ⟨s, hs, e⟩, h2⟩
end
end PL
namespace PL
open PySem PySem.Spec PyProof.Rows L2
abbrev sLpa : Stmt := topS 46
abbrev nLpa : List Str := ["_law_table_here", "_law_found", "_law_row", "_law_action", "_law_goal", "_law_party"]
theorem scLpa : FnScope nLpa ["_law_table_here"] (defScope sLpa) := ⟨rfl, rfl, rfl, by decide +kernel, rfl, by decide +kernel, by decide +kernel⟩
def spLpa : Sp := fun vs H Q _ => ∃ x T, vs = [x] ∧ RTbl H x T ∧ (∃ Ps : List Str, Ps.length ≤ 60 ∧ ∀ p, Occ T p → p ∈ Ps) ∧
  ∀ (H' : Hp) (q : Addr) (ps : List Str), Same H H' → H q = none → H' q = some (.lst (ps.map V.str)) → ps.length ≤ 60 → (∀ p, p ∈ ps ↔ Occ T p) → Q (.ref q) H'
abbrev sLsi : Stmt := topS 47
abbrev nLsi : List Str := ["_law_table_here", "_law_parties_here", "_law_sights_here", "_law_action", "_law_fresh", "_law_k"]
theorem scLsi : FnScope nLsi ["_law_table_here", "_law_parties_here", "_law_sights_here", "_law_action"] (defScope sLsi) := ⟨rfl, rfl, rfl, by decide +kernel, rfl, by decide +kernel, by decide +kernel⟩
/-- one more sight of each party -/
def StK (T : Tbl) (a : Act) (ps : List Str) (Ks Fs : List (List Nat)) : Prop := Fs.length = ps.length ∧ ∀ (i : Nat) p Kk F, ps[i]? = some p → Ks[i]? = some Kk → Fs[i]? = some F →
  (conc a p = true → Asc F ∧ ∀ g, g ∈ F ↔ ∃ s ∈ Kk, ∃ g0, T.next s a = some g0 ∧ UR T p g0 g) ∧ (conc a p = false → F = Kk)
/-- a list of ints that is not the list at d -/
abbrev RNd (d : Addr) : Rl (List Nat) := fun H v Kk => ∃ m, v = V.ref m ∧ m ≠ d ∧ H m = some (.lst (Kk.map fun n : Nat => V.int (n : Int)))
def spLsi : Sp := fun vs H Q _ => ∃ x y T a, ∃ (dp ds d0 : Addr) (o0 : HO) (kvs : List V) (ps : List Str) (Ks : List (List Nat)), vs = [x, .ref dp, .ref ds, y] ∧ RTbl H x T ∧ T.OK ∧ T.rows.length ≤ 60 ∧ (∀ r ∈ T.rows, r.length ≤ 100) ∧ H dp = some (.lst (ps.map V.str)) ∧ H d0 = some o0 ∧ H ds = some (.lst kvs) ∧ Paired (RNd d0 H) kvs Ks ∧ Ks.length = ps.length ∧ ps.length ≤ 60 ∧
  (∀ Kk ∈ Ks, Asc Kk ∧ ∀ s ∈ Kk, s < T.rows.length) ∧ RAct H y a ∧ ∀ (H' : Hp) (q : Addr) (fvs : List V) (Fs : List (List Nat)), Same H H' → H q = none → H' q = some (.lst fvs) → Paired (RNd d0 H') fvs Fs → StK T a ps Ks Fs → Q (.ref q) H'
section
variable {P : Program} {w : World} {K : PySem.W.Frag} {mg : Str → Option Value} {base : Heap}
theorem ok_lpa {f : Addr} {fd : FuncData} {k : Nat} (F : Fun K "_law_parties" "_law_parties" sLpa f fd) (mS : mg "sorted" = none) : FnOk P w K mg base CX0 (k + 1) f fd ["_law_table_here"] spLpa := by
  refine F.ok scLpa (fun vs H Q E h => ?_) (fun cdv A outer s0 H vs Q E hr h => ?_)
  · obtain ⟨x, T, rfl, _⟩ := h
    rfl
  · obtain ⟨x, T, rfl, hT, ⟨Ps, hPs, hPm⟩, q⟩ := h
    have nd := scLpa.nd
    have sz := sizeLine_eq
    obtain ⟨pt, vr, ve, rfl, hpt, ⟨pr, vrs, rfl, hpr, prs⟩, _⟩ := id hT
    refine ⟨_, pss_cons (ps_set (i := 1) nd rfl (.inl rfl) (pe_lst pa_nil))
      (pss_cons (ps_for PassesOwn.never rfl (pi_tup (pe_ix ix_tup (pv 0) pe_int (fun _ _ => rfl))) (pg_name (i := 2) nd rfl (.inl rfl))
        (pss_one (ps_for PassesOwn.never rfl (pi_tup (pv 2)) (pg_tup rfl (pgs_cons (pg_name (i := 3) nd rfl (.inl rfl)) (pgs_cons (pg_name (i := 4) nd rfl (.inl rfl)) pgs_nil)))
          (pss_one (ps_for PassesOwn.never rfl (pi_list (pe_lst (pa_cons (pe_ix ix_tup (pv 3) pe_int (fun _ _ => rfl)) (pa_cons (pe_ix ix_tup (pv 3) pe_int (fun _ _ => rfl)) pa_nil)))) (pg_name (i := 5) nd rfl (.inl rfl))
            (pss_one (ps_if (pt_cmpR op_notIn_seq (pv 5) (pv 1) (by rfl)) (pss_one (ps_expr (pe_bm PySem.F.plainAttrs_list PySem.F.slot_list_append PySem.F.type_list_append mt_append (pv 1) (pa_cons (pv 5) pa_nil)))) pss_nil)))))))
      (pss_one (ps_ret (pe_callB cr_sortedS (by rfl) mS (by decide +kernel) (pa_cons (pv 1) pa_nil))))), ?_⟩
    refine ⟨Nat.le_of_ble_eq_true rfl, fun d hd => ?_⟩
    have s1 : Same H (L2.upd H d (.lst [])) := same_upd hd
    let Iv : (Str → Prop) → Hp → Prop := fun S H7 => Same H H7 ∧ ∃ ks : List Str, H7 d = some (.lst (ks.map V.str)) ∧ ks.Nodup ∧ ∀ p, p ∈ ks ↔ S p
    let S0 : Nat → Str → Prop := fun i p => ∃ row ∈ T.rows.take i, ∃ x ∈ row, x.1.1 = p ∨ x.1.2.1 = p
    refine ⟨.ref pt, rfl, pt, _, _, .ref pr, rfl, rfl, SqT.of (s1 _ _ hpt), atI_nat (j := 1) rfl, pr, rfl, ⟨_, SqT.of (s1 _ _ hpr)⟩,
      for_it (walk_tup (xs := vrs)) (fun i σ H7 => ∃ y2 y3 y4 y5, σ = [some (.ref pt), some (.ref d), y2, y3, y4, y5] ∧ Iv (S0 i) H7)
      ⟨none, none, none, none, rfl, s1, [], upd_same, List.nodup_nil, fun p => ⟨(fun h => by cases h), fun ⟨r, h, _⟩ => by simp at h⟩⟩ (fun i σ H7 _ ⟨_, _, _, _, _, sm, _⟩ => SqT.of (sm _ _ hpr)) ?_ ?_⟩
    · rintro i yv σ H7 H8 hi ⟨y2, y3, y4, y5, rfl, hI⟩ ⟨rfl, hyi⟩
      obtain ⟨row, hrow, p5, vs5, rfl, hp5, prow⟩ := pget prs hyi
      have hrm : row ∈ T.rows := List.mem_of_getElem? hrow
      refine ⟨.ref p5, rfl, p5, rfl, ⟨_, SqT.of (hI.1 _ _ hp5)⟩, for_it (walk_tup (xs := vs5)) (fun j σ H7 => ∃ y3 y4 y5, σ = [some (.ref pt), some (.ref d), some (.ref p5), y3, y4, y5] ∧ Iv (fun p => S0 i p ∨ ∃ x ∈ row.take j, x.1.1 = p ∨ x.1.2.1 = p) H7)
        ⟨_, _, _, rfl, hI.1, let ⟨ks, h1, h3, h4⟩ := hI.2; ⟨ks, h1, h3, fun p => by rw [h4]; simp⟩⟩ (fun i σ H7 _ ⟨_, _, _, _, sm, _⟩ => SqT.of (sm _ _ hp5)) ?_ ?_⟩
      · rintro j yv σ H9 H10 hj ⟨y3, y4, y5, rfl, sm, ks, hk, hn, hm⟩ ⟨rfl, hyj⟩
        obtain ⟨pq, hpq, p6, va, vb, rfl, hp6, ⟨pa, rfl, hpa⟩, hvb⟩ := pget prow hyj
        have hpqm : pq ∈ row := List.mem_of_getElem? hpq
        refine ⟨p6, _, rfl, SqT.of (sm _ _ hp6), rfl, _, _, rfl, _, _, rfl, rfl, ?_⟩
        refine ⟨_, rfl, pa, _, _, .str pq.1.1, rfl, rfl, SqT.of (sm _ _ hpa), atI_nat (j := 0) rfl, _, rfl, pa, _, _, .str pq.1.2.1, rfl, rfl, SqT.of (sm _ _ hpa), atI_nat (j := 1) rfl, Nat.le_of_ble_eq_true rfl, fun l2 nl2 => ?_⟩
        have sL := sm.trans (same_upd (o := .lst [.str pq.1.1, .str pq.1.2.1]) nl2)
        have hk2 := same_upd (o := .lst [.str pq.1.1, .str pq.1.2.1]) nl2 _ _ hk
        have ndl : l2 ≠ d := fun e => by rw [e, hk] at nl2; cases nl2
        refine ⟨l2, rfl, ⟨_, SqL.of upd_same⟩, for_it (walk_list (xs := [V.str pq.1.1, V.str pq.1.2.1])) (fun m σ H11 => ∃ y5, σ = [some (.ref pt), some (.ref d), some (.ref p5), some (.ref pa), some vb, y5] ∧ H11 l2 = some (.lst [.str pq.1.1, .str pq.1.2.1]) ∧ Iv (fun p => (S0 i p ∨ ∃ x ∈ row.take j, x.1.1 = p ∨ x.1.2.1 = p) ∨ p ∈ [pq.1.1, pq.1.2.1].take m) H11)
          ⟨_, rfl, upd_same, sL, ks, hk2, hn, fun p => by rw [hm]; simp⟩ (fun m σ H11 _ ⟨_, _, h, _⟩ => SqL.of h) ?_ ?_⟩
        · rintro m yv σ H11 H12 hm2 ⟨y5, rfl, hl2, s11, ks, hk, hn, hm⟩ ⟨rfl, hym⟩
          obtain ⟨p, hp, rfl⟩ : ∃ p, [pq.1.1, pq.1.2.1][m]? = some p ∧ yv = .str p := by
            have e : ([pq.1.1, pq.1.2.1].map V.str)[m]? = some yv := hym
            rw [List.getElem?_map] at e
            cases e2 : [pq.1.1, pq.1.2.1][m]? with
            | none => rw [e2] at e; cases e
            | some p => rw [e2] at e; exact ⟨p, rfl, (Option.some.inj e).symm⟩
          have occ : ∀ p' ∈ ks, Occ T p' := fun p' h => by
            rcases (hm p').mp h with (⟨r, hr, x, hx, e⟩ | ⟨x, hx, e⟩) | h
            · exact ⟨r, List.mem_of_mem_take hr, x, hx, e⟩
            · exact ⟨row, hrm, x, List.mem_of_mem_take hx, e⟩
            · have h := List.mem_of_mem_take h
              rcases List.mem_cons.mp h with e | h
              · exact ⟨row, hrm, pq, hpqm, .inl e.symm⟩
              · exact ⟨row, hrm, pq, hpqm, .inr (by simpa using h : p' = pq.1.2.1).symm⟩
          have kl := nodup_le hn fun p h => hPm p (occ p h)
          refine ⟨_, rfl, _, rfl, d, _, rfl, .inl (SqL.of hk), rfl, by simp [flatV], _, rfl, ite2 (fun e => ?_) (fun e => ?_)⟩
          · have e : (!inV (.str p) (ks.map V.str)) = true := e
            have hnew : p ∉ ks := fun z => by rw [(inV_str p ks).mpr z] at e; cases e
            refine ⟨.ref d, rfl, .inl ⟨rfl, _, .inl (.inl hk)⟩, _, rfl, d, _, _, rfl, rfl, hk, by rw [List.length_map, sz]; omega, ?_⟩
            refine ⟨_, rfl, by rw [upd_ne ndl]; exact hl2, same_re s11 hd, ks ++ [p], by rw [upd_same, List.map_append]; rfl, List.nodup_append.mpr ⟨hn, by simp, fun a ha b hb e2 => ?_⟩, fun p' => ?_⟩
            · have : b = p := by simpa using hb
              subst this
              exact hnew (by rw [← e2]; exact ha)
            · have h0 := hm p'
              constructor
              · intro h
                rcases List.mem_append.mp h with h | h
                · exact (h0.mp h).imp id fun z => by rw [take_snoc hp]; exact List.mem_append_left _ z
                · exact .inr (by rw [take_snoc hp]; exact List.mem_append_right _ h)
              · rintro (h | h)
                · exact List.mem_append_left _ (h0.mpr (.inl h))
                · rw [take_snoc hp] at h
                  rcases List.mem_append.mp h with h | h
                  · exact List.mem_append_left _ (h0.mpr (.inr h))
                  · exact List.mem_append_right _ h
          · have e : ¬ (!inV (.str p) (ks.map V.str)) = true := e
            have hin : p ∈ ks := by
              refine (inV_str p ks).mp ?_
              cases h : inV (.str p) (ks.map V.str) with
              | true => rfl
              | false => rw [h] at e; exact absurd rfl e
            refine ⟨_, rfl, hl2, s11, ks, hk, hn, fun p' => ?_⟩
            have h0 := hm p'
            constructor
            · intro h
              exact (h0.mp h).imp id fun z => by rw [take_snoc hp]; exact List.mem_append_left _ z
            · rintro (h | h)
              · exact h0.mpr (.inl h)
              · rw [take_snoc hp] at h
                rcases List.mem_append.mp h with h | h
                · exact h0.mpr (.inr h)
                · have : p' = p := by simpa using h
                  rw [this]
                  exact hin
        · rintro σ H11 ⟨y5, rfl, hl2, s11, ks, hk, hn, hm⟩
          refine ⟨_, _, _, rfl, s11, ks, hk, hn, fun p => ?_⟩
          rw [hm, take_snoc hpq]
          show _ ∨ p ∈ [pq.1.1, pq.1.2.1] ↔ _
          constructor
          · rintro ((h | ⟨x, hx, e⟩) | h)
            · exact .inl h
            · exact .inr ⟨x, List.mem_append_left _ hx, e⟩
            · refine .inr ⟨pq, List.mem_append_right _ (by simp), ?_⟩
              rcases List.mem_cons.mp h with e | h
              · exact .inl e.symm
              · exact .inr (by simpa using h : p = pq.1.2.1).symm
          · rintro (h | ⟨x, hx, e⟩)
            · exact .inl (.inl h)
            · rcases List.mem_append.mp hx with hx | hx
              · exact .inl (.inr ⟨x, hx, e⟩)
              · have : x = pq := by simpa using hx
                subst this
                right
                rcases e with e | e
                · rw [← e]; simp
                · rw [← e]; simp
      · rintro σ H9 ⟨y3, y4, y5, rfl, sm, ks, hk, hn, hm⟩
        refine ⟨_, _, _, _, rfl, sm, ks, hk, hn, fun p => ?_⟩
        rw [hm, plen prow, List.take_length]
        show _ ↔ ∃ r ∈ T.rows.take (i + 1), _
        rw [take_snoc hrow]
        constructor
        · rintro (⟨r, hr, h⟩ | h)
          · exact ⟨r, List.mem_append_left _ hr, h⟩
          · exact ⟨row, List.mem_append_right _ (by simp), h⟩
        · rintro ⟨r, hr, h⟩
          rcases List.mem_append.mp hr with hr | hr
          · exact .inl ⟨r, hr, h⟩
          · have : r = row := by simpa using hr
            subst this
            exact .inr h
    · rintro σ H7 ⟨y2, y3, y4, y5, rfl, sm, ks, hk, hn, hm⟩
      have hm' : ∀ p, p ∈ ks ↔ Occ T p := fun p => by
        rw [hm]
        show (∃ row ∈ T.rows.take vrs.length, _) ↔ _
        rw [plen prs, List.take_length]
        exact Iff.rfl
      have kl := nodup_le hn fun p h => hPm p ((hm' p).mp h)
      refine ⟨_, rfl, d, ks, rfl, SqL.of hk, by omega, fun ys l pm srt nl => ?_⟩
      exact q _ l ys (sm.trans (same_upd nl)) (sm.free nl) upd_same (by rw [pm.length_eq]; omega) fun x => pm.mem_iff.trans (hm' x)
theorem ok_lsi {f fS : Addr} {fd fdS : FuncData} {k : Nat} (F : Fun K "_law_sights" "_law_sights" sLsi f fd)
    (GS : FnOk P w K mg base CX0 k fS fdS ["_law_table_here", "_law_states", "_law_party", "_law_action"] spLse) (kS : PySem.W.keepIn K (.ref fS) = true) (bS : Binds K fdS ["_law_table_here", "_law_states", "_law_party", "_law_action"] []) (gS : mg "_law_seen" = some (.ref fS)) (mR : mg "range" = none) (mL : mg "len" = none) :
    FnOk P w K mg base CX0 (k + 1) f fd ["_law_table_here", "_law_parties_here", "_law_sights_here", "_law_action"] spLsi := by
  refine F.ok scLsi (fun vs H Q E h => ?_) (fun cdv A outer s0 H vs Q E hr h => ?_)
  · obtain ⟨x, y, T, a, dp, ds, d0, o0, kvs, ps, Ks, rfl, _⟩ := h
    rfl
  · obtain ⟨x, y, T, a, dp, ds, d0, o0, kvs, ps, Ks, rfl, hT, hok, h60, hrl, hdp, hd0, hds, hks, hkl, hpl, hK, ⟨pa, rfl, hpa⟩, q⟩ := h
    have nd := scLsi.nd
    have sz := sizeLine_eq
    refine ⟨_, pss_cons (ps_set (i := 4) nd rfl (.inl rfl) (pe_lst pa_nil))
      (pss_cons (ps_for PassesOwn.never rfl (pi_range1 (by rfl) mR (pa_cons (pe_callB call_len_seq (by rfl) mL (by decide +kernel) (pa_cons (pv 1) pa_nil)) pa_nil)) (pg_name (i := 5) nd rfl (.inl rfl))
        (pss_one (ps_if (pt_cmpR op_in_seq (pe_ix ix_list (pv 1) (pv 5) (fun _ _ => rfl)) (pe_lst (pa_cons (pe_ix ix_tup (pv 3) pe_int (fun _ _ => rfl)) (pa_cons (pe_ix ix_tup (pv 3) pe_int (fun _ _ => rfl)) pa_nil))) (by rfl))
          (pss_one (ps_expr (pe_bm PySem.F.plainAttrs_list PySem.F.slot_list_append PySem.F.type_list_append mt_append (pv 4) (pa_cons (pe_call GS hr (by rfl) gS kS bS .nil pass0 (pa_cons (pv 0) (pa_cons (pe_ix ix_list (pv 2) (pv 5) (fun _ _ => rfl)) (pa_cons (pe_ix ix_list (pv 1) (pv 5) (fun _ _ => rfl)) (pa_cons (pv 3) pa_nil))))) pa_nil))))
          (pss_one (ps_expr (pe_bm PySem.F.plainAttrs_list PySem.F.slot_list_append PySem.F.type_list_append mt_append (pv 4) (pa_cons (pe_ix ix_list (pv 2) (pv 5) (fun _ _ => rfl)) pa_nil)))))))
      (pss_one (ps_ret (pv 4)))), ?_⟩
    refine ⟨Nat.le_of_ble_eq_true rfl, fun df ndf => ?_⟩
    have s1 := same_upd (o := .lst []) ndf
    have kvl := plen hks
    refine ⟨_, rfl, dp, _, rfl, .inl (SqL.of (s1 _ _ hdp)), _, rfl, by rw [List.length_map]; omega, by rw [List.length_map]; omega, for_it walk_rg (fun i σ H7 => ∃ y5 fvs Fs, σ = [some x, some (.ref dp), some (.ref ds), some (.ref pa), some (.ref df), y5] ∧ Same H H7 ∧ H7 df = some (.lst fvs) ∧ Paired (fun v (F : List Nat) => ∃ m, v = V.ref m ∧ m ≠ df ∧ m ≠ d0 ∧ H7 m = some (.lst (F.map fun n : Nat => V.int (n : Int)))) fvs Fs ∧ Fs.length = i ∧
        ∀ (j : Nat) p Kk F, ps[j]? = some p → Ks[j]? = some Kk → Fs[j]? = some F → (conc a p = true → Asc F ∧ ∀ g, g ∈ F ↔ ∃ s ∈ Kk, ∃ g0, T.next s a = some g0 ∧ UR T p g0 g) ∧ (conc a p = false → F = Kk))
      ⟨none, [], [], rfl, s1, upd_same, .nil, rfl, fun j p Kk F _ _ h => by cases h⟩ (fun _ _ _ _ _ => trivial) ?_ ?_⟩
    · rintro i yv σ H7 H8 hi ⟨y5, fvs, Fs, rfl, sm, hdf, hfs, hfl, hdone⟩ ⟨rfl, rfl⟩
      have hi : i < ps.length := by rw [List.length_map] at hi; exact hi
      obtain ⟨p, hp⟩ : ∃ p, ps[i]? = some p := ⟨_, List.getElem?_eq_getElem hi⟩
      obtain ⟨Kk, hKk⟩ : ∃ Kk, Ks[i]? = some Kk := ⟨_, List.getElem?_eq_getElem (by omega)⟩
      obtain ⟨kv, hkv, m, rfl, n0, hm⟩ := pget' hks hKk
      have hKm := hK Kk (List.mem_of_getElem? hKk)
      have hpi : (ps.map V.str)[i]? = some (.str p) := by rw [List.getElem?_map, hp]; rfl
      have fvl := plen hfs
      have nmd : ∀ {b : Addr} {o : HO}, H b = some o → b ≠ df := fun h e => by rw [e, ndf] at h; cases h
      refine ⟨_, rfl, _, rfl, dp, _, _, _, rfl, rfl, SqL.of (sm _ _ hdp), atI_nat hpi, _, rfl, pa, _, _, .str a.1, rfl, rfl, SqT.of (sm _ _ hpa), atI_nat (j := 0) rfl, _, rfl, pa, _, _, .str a.2.1, rfl, rfl, SqT.of (sm _ _ hpa), atI_nat (j := 1) rfl, Nat.le_of_ble_eq_true rfl, fun l2 nl2 => ?_⟩
      have sL := same_upd (o := .lst [.str a.1, .str a.2.1]) nl2
      have sm2 := sm.trans sL
      have hin := inV_two p a.1 a.2.1
      have hdf2 := sL _ _ hdf
      have put : ∀ {H9 : Hp} {m9 : Addr} {F : List Nat}, Same (L2.upd H8 l2 (.lst [.str a.1, .str a.2.1])) H9 → m9 ≠ df → m9 ≠ d0 → H9 m9 = some (.lst (F.map fun n : Nat => V.int (n : Int))) → ((conc a p = true → Asc F ∧ ∀ g, g ∈ F ↔ ∃ s ∈ Kk, ∃ g0, T.next s a = some g0 ∧ UR T p g0 g) ∧ (conc a p = false → F = Kk)) →
          Same H (L2.upd H9 df (.lst (fvs ++ [.ref m9]))) ∧ Paired (fun v (F : List Nat) => ∃ m, v = V.ref m ∧ m ≠ df ∧ m ≠ d0 ∧ (L2.upd H9 df (.lst (fvs ++ [.ref m9]))) m = some (.lst (F.map fun n : Nat => V.int (n : Int)))) (fvs ++ [.ref m9]) (Fs ++ [F]) ∧ (Fs ++ [F]).length = i + 1 ∧
          ∀ (j : Nat) p Kk F', ps[j]? = some p → Ks[j]? = some Kk → (Fs ++ [F])[j]? = some F' → (conc a p = true → Asc F' ∧ ∀ g, g ∈ F' ↔ ∃ s ∈ Kk, ∃ g0, T.next s a = some g0 ∧ UR T p g0 g) ∧ (conc a p = false → F' = Kk) := by
        intro H9 m9 F s9 n9 n90 h9 hF
        refine ⟨same_re (sm2.trans s9) ndf, psnoc (Paired.mapP hfs fun v F ⟨m, e, n, n0, h⟩ => ⟨m, e, n, n0, by rw [upd_ne n]; exact s9 _ _ (sL _ _ h)⟩) ⟨m9, rfl, n9, n90, by rw [upd_ne n9]; exact h9⟩, by rw [List.length_append, hfl]; rfl, fun j p' Kk' F' h1 h2 h3 => ?_⟩
        by_cases hj : j < Fs.length
        · rw [List.getElem?_append_left hj] at h3
          exact hdone j p' Kk' F' h1 h2 h3
        · rw [List.getElem?_append_right (by omega)] at h3
          have hj2 : j - Fs.length = 0 := by
            have := (List.getElem?_eq_some_iff.mp h3).1
            rw [List.length_singleton] at this
            omega
          rw [hj2] at h3
          have e1 : F = F' := Option.some.inj h3
          have e2 : j = i := by omega
          subst e2
          rw [hp] at h1
          rw [hKk] at h2
          cases h1
          cases h2
          rw [← e1]
          exact hF
      refine ⟨l2, _, rfl, .inl (SqL.of upd_same), rfl, rfl, _, rfl, ite2 (fun e => ?_) (fun e => ?_)⟩
      · have e : inV (.str p) [.str a.1, .str a.2.1] = true := e
        have hc : conc a p = true := by rw [hin] at e; exact e
        refine ⟨.ref df, rfl, .inl ⟨rfl, _, .inl (.inl hdf2)⟩, _, rfl, _, rfl, _, rfl, ds, _, _, _, rfl, rfl, SqL.of (sm2 _ _ hds), atI_nat hkv, _, rfl, _, rfl, dp, _, _, _, rfl, rfl, SqL.of (sm2 _ _ hdp), atI_nat hpi, _, rfl, x, .ref pa, T, p, a, m, Kk, rfl, RTbl.mono _ _ _ _ sm2 hT, hok, h60, hrl, sm2 _ _ hm, hKm.2, ?_, ⟨pa, rfl, sm2 _ _ hpa⟩, fun H9 qm F s9 nqm hqm aF hF => ?_⟩
        · have := lt_len hKm.1.nodup hKm.2
          omega
        have nq : qm ≠ df := fun e => by rw [e, hdf2] at nqm; cases nqm
        refine ⟨df, _, _, rfl, rfl, s9 _ _ hdf2, by rw [sz]; omega, ?_⟩
        obtain ⟨b1, b2, b3, b4⟩ := put s9 nq (fun e => by rw [e, sm2 _ _ hd0] at nqm; cases nqm) hqm ⟨fun _ => ⟨aF, hF⟩, (fun z => by rw [hc] at z; cases z)⟩
        exact ⟨_, _, _, rfl, b1, upd_same, b2, b3, b4⟩
      · have e : ¬ inV (.str p) [.str a.1, .str a.2.1] = true := e
        have hc : conc a p = false := by
          cases h : conc a p with
          | false => rfl
          | true => exact absurd (hin.trans h) e
        refine ⟨.ref df, rfl, .inl ⟨rfl, _, .inl (.inl hdf2)⟩, _, rfl, _, rfl, ds, _, _, _, rfl, rfl, SqL.of (sm2 _ _ hds), atI_nat hkv, df, _, _, rfl, rfl, hdf2, by rw [sz]; omega, ?_⟩
        obtain ⟨b1, b2, b3, b4⟩ := put (fun _ _ h => h) (nmd hm) n0 (sm2 _ _ hm) ⟨(fun z => by rw [hc] at z; cases z), fun _ => rfl⟩
        exact ⟨_, _, _, rfl, b1, upd_same, b2, b3, b4⟩
    · rintro σ H7 ⟨y5, fvs, Fs, rfl, sm, hdf, hfs, hfl, hdone⟩
      have hfl : Fs.length = ps.length := by rw [hfl, List.length_map]; rfl
      exact ⟨_, rfl, q H7 df fvs Fs sm ndf hdf (Paired.mapP hfs fun v F ⟨m, e, _, n, h⟩ => ⟨m, e, n, h⟩) ⟨hfl, hdone⟩⟩
end
end PL
namespace PL
open PySem PySem.Spec PyProof.Rows L2
/-- an entry: a state, and what each party may think -/
abbrev En := Nat × List (List Nat)
def SK (T : Tbl) (ps : List Str) (r : List Act) (e : En) : Prop := T.walk r = some e.1 ∧ Paired (fun p (Kk : List Nat) => Asc Kk ∧ ∀ g, g ∈ Kk ↔ Kn T p (vw r p) g) ps e.2
theorem SK.step {T : Tbl} {ps : List Str} {r : List Act} {s : Nat} {Ks Fs : List (List Nat)} {a : Act} {g : Nat} (h : SK T ps r (s, Ks)) (hg : T.next s a = some g) (hf : StK T a ps Ks Fs) : SK T ps (r ++ [a]) (g, Fs) := by
  obtain ⟨h1, h2⟩ := h
  have h1 : T.walk r = some s := h1
  refine ⟨by rw [walk_snoc, h1]; exact hg, pix hf.1.symm fun i p F hp hF => ?_⟩
  obtain ⟨Kk, hK, aK, mK⟩ := pget h2 hp
  obtain ⟨c1, c2⟩ := hf.2 i p Kk F hp hK hF
  by_cases hc : conc a p = true
  · obtain ⟨b1, b2⟩ := c1 hc
    refine ⟨b1, fun x => ?_⟩
    rw [b2, vw_one hc, kn_snoc]
    constructor
    · rintro ⟨s', q1, g0, q2, q3⟩
      exact ⟨s', g0, (mK s').mp q1, hc, q2, q3⟩
    · rintro ⟨s', g0, q1, _, q2, q3⟩
      exact ⟨s', (mK s').mpr q1, g0, q2, q3⟩
  · rw [c2 (by simpa using hc), vw_zero hc]
    exact ⟨aK, mK⟩
/-- all entries up to k are closed -/
def CloE (T : Tbl) (ps : List Str) (fs : List En) (k : Nat) : Prop := ∀ (j : Nat) s Ks, j < k → fs[j]? = some (s, Ks) → ∀ a g, T.next s a = some g → ∃ Fs, (g, Fs) ∈ fs ∧ StK T a ps Ks Fs
theorem cover {T : Tbl} {ps : List Str} {fs : List En} (hc : CloE T ps fs fs.length) (h0 : ∃ e ∈ fs, SK T ps [] e) : ∀ (n : Nat) (r : List Act) s, r.length = n → T.walk r = some s → ∃ e ∈ fs, SK T ps r e := by
  intro n
  induction n with
  | zero =>
    intro r s hr hw
    have : r = [] := List.eq_nil_of_length_eq_zero hr
    subst this
    exact h0
  | succ n ih =>
    intro r s hr hw
    have hne : r ≠ [] := fun e => by rw [e] at hr; cases hr
    obtain ⟨r', a, rfl⟩ : ∃ r' a, r = r' ++ [a] := ⟨r.dropLast, r.getLast hne, (List.dropLast_concat_getLast hne).symm⟩
    rw [List.length_append, List.length_singleton] at hr
    rw [walk_snoc] at hw
    cases hw' : T.walk r' with
    | none => rw [hw'] at hw; cases hw
    | some s' =>
      rw [hw'] at hw
      have hw : T.next s' a = some s := hw
      obtain ⟨⟨s2, Ks⟩, he, hS⟩ := ih r' s' (by omega) hw'
      have e1 : some s' = some s2 := hw'.symm.trans hS.1
      cases e1
      obtain ⟨j, hj, ej⟩ := List.getElem_of_mem he
      obtain ⟨Fs, hF, hst⟩ := hc j s' Ks hj (by rw [List.getElem?_eq_getElem hj, ej]) a s hw
      exact ⟨(s, Fs), hF, hS.step hw hst⟩
theorem not_many {T : Tbl} {ps : List Str} {fs : List En} (hps : ∀ p, p ∈ ps ↔ Occ T p) (hc : CloE T ps fs fs.length) (h0 : ∃ e ∈ fs, SK T ps [] e) (hl : fs.length ≤ 3000) : ¬ Many T := by
  rintro ⟨L, hL, hw, hd⟩
  have pick : ∀ r ∈ L, ∃ i, i < fs.length ∧ ∃ e, fs[i]? = some e ∧ SK T ps r e := fun r hr => by
    obtain ⟨s, hs⟩ := hw r hr
    obtain ⟨e, he, hS⟩ := cover hc h0 r.length r s rfl hs
    obtain ⟨i, hi, ei⟩ := List.getElem_of_mem he
    exact ⟨i, hi, e, by rw [List.getElem?_eq_getElem hi, ei], hS⟩
  let f : List Act → Nat := fun r => @dite _ (∃ i, i < fs.length ∧ ∃ e, fs[i]? = some e ∧ SK T ps r e) (Classical.propDecidable _) (fun h => Classical.choose h) (fun _ => 0)
  have fok : ∀ r ∈ L, f r < fs.length ∧ ∃ e, fs[f r]? = some e ∧ SK T ps r e := fun r hr => by
    have h := pick r hr
    have : f r = Classical.choose h := dif_pos h
    rw [this]
    exact Classical.choose_spec h
  have nd : (L.map f).Nodup := List.pairwise_map.mpr (hd.imp_of_mem fun {r r'} hr hr' hdf e => by
    obtain ⟨_, e1, h1, k1, k2⟩ := fok r hr
    obtain ⟨_, e2, h2, k3, k4⟩ := fok r' hr'
    rw [e, h2] at h1
    cases h1
    rcases hdf with hdf | ⟨p, hp, hdf⟩
    · exact hdf (k1.trans k3.symm)
    · obtain ⟨i, hi, ei⟩ := List.getElem_of_mem ((hps p).mpr hp)
      have hpi : ps[i]? = some p := by rw [List.getElem?_eq_getElem hi, ei]
      obtain ⟨Kk, hK, _, m1⟩ := pget k2 hpi
      obtain ⟨Kk', hK', _, m2⟩ := pget k4 hpi
      rw [hK] at hK'
      cases hK'
      exact hdf fun s => (m1 s).symm.trans (m2 s))
  have := lt_len (n := fs.length) nd fun x hx => by
    obtain ⟨r, hr, e⟩ := List.mem_map.mp hx
    exact e ▸ (fok r hr).1
  rw [List.length_map, hL] at this
  omega
/-! keys -/
def keyT (l : List Nat) : NestedKey := .tup (l.map fun n : Nat => .num (n : Int))
def keyE (e : En) : NestedKey := .tup [.num (e.1 : Int), .tup (e.2.map keyT)]
theorem keyT_inj : ∀ a b : List Nat, keyT a = keyT b → a = b
  | [], [], _ => rfl
  | [], y :: b, h => by simp [keyT] at h
  | x :: a, [], h => by simp [keyT] at h
  | x :: a, y :: b, h => by
    simp only [keyT, List.map_cons, NestedKey.tup.injEq, List.cons.injEq, NestedKey.num.injEq] at h
    rw [show x = y by omega, keyT_inj a b (by simp only [keyT, h.2])]
theorem keyE_inj (a b : En) (h : keyE a = keyE b) : a = b := by
  simp only [keyE, NestedKey.tup.injEq, List.cons.injEq, NestedKey.num.injEq, and_true] at h
  have key : ∀ l m : List (List Nat), l.map keyT = m.map keyT → l = m := by
    intro l
    induction l with
    | nil => intro m h; cases m with
      | nil => rfl
      | cons y m => cases h
    | cons x l ih => intro m h; cases m with
      | nil => cases h
      | cons y m =>
        rw [List.map_cons, List.map_cons] at h
        injection h with h1 h2
        rw [keyT_inj x y h1, ih m h2]
  exact Prod.ext (by omega) (key _ _ h.2)
theorem keyT_depth : ∀ l : List Nat, NestedKey.depthAll (l.map fun n : Nat => .num (n : Int)) ≤ 1
  | [] => by simp [NestedKey.depthAll]
  | x :: l => by
    rw [List.map_cons, NestedKey.depthAll]
    exact Nat.max_le.mpr ⟨by simp [NestedKey.depth], keyT_depth l⟩
theorem keyE_depth (e : En) : (keyE e).depth ≤ 8 := by
  have h : ∀ l : List (List Nat), NestedKey.depthAll (l.map keyT) ≤ 3 := by
    intro l
    induction l with
    | nil => simp [NestedKey.depthAll]
    | cons x l ih =>
      rw [List.map_cons, NestedKey.depthAll]
      have := keyT_depth x
      exact Nat.max_le.mpr ⟨by simp only [keyT, NestedKey.depth]; omega, ih⟩
  have := h e.2
  simp only [keyE, NestedKey.depth, NestedKey.depthAll]
  omega
theorem nr_ints {H : Hp} : ∀ l : List Nat, NRs H (l.map fun n : Nat => .num (n : Int)) (l.map fun n : Nat => V.int (n : Int))
  | [] => .nil
  | x :: l => .cons (.int _) (nr_ints l)
/-- tuples of ints -/
abbrev RTs : Rl (List Nat) := fun H v l => ∃ t, v = .ref t ∧ H t = some (.tup (l.map fun n : Nat => V.int (n : Int)))
theorem nr_ts {H : Hp} : ∀ {vs : List V} {Ks : List (List Nat)}, Paired (RTs H) vs Ks → NRs H (Ks.map keyT) vs
  | _, _, .nil => .nil
  | _, _, .cons ⟨t, e, h⟩ q => by
    subst e
    exact .cons (.tup h (nr_ints _)) (nr_ts q)
theorem nr_en {H : Hp} {b t : Addr} {s : Nat} {vs : List V} {Ks : List (List Nat)} (hb : H b = some (.tup [.int (s : Int), .ref t])) (ht : H t = some (.tup vs)) (h : Paired (RTs H) vs Ks) : NR H (keyE (s, Ks)) (.ref b) := .tup hb (.cons (.int _) (.cons (.tup ht (nr_ts h)) .nil))
theorem nd_keys {kvs : List NKV} {l : List En} (h : kvs.map (·.1) = l.map keyE) (x : En) : (ndVal kvs (keyE x)).isSome = true ↔ x ∈ l := by
  rw [ndVal_V]
  refine mem_keys (kvs := kvs.map fun x => (x.1, x.2.2)) ?_ (fun a b => keyE_inj a b) x
  rw [List.map_map]
  exact h
/-- an entry in the heap, its lists apart from the list of all -/
def REn (d : Addr) : Rl En := fun H v e => ∃ t l ws, v = .ref t ∧ H t = some (.tup [.int (e.1 : Int), .ref l]) ∧ l ≠ d ∧ H l = some (.lst ws) ∧ Paired (fun v (Kk : List Nat) => ∃ m, v = V.ref m ∧ m ≠ d ∧ H m = some (.lst (Kk.map fun n : Nat => V.int (n : Int)))) ws e.2
theorem REn.keep {d : Addr} {H H' : Hp} {v : V} {e : En} (h : REn d H v e) (k : ∀ b o, b ≠ d → H b = some o → H' b = some o) (t : TSm H H') : REn d H' v e :=
  let ⟨q, l, ws, e, h1, n, h2, h3⟩ := h
  ⟨q, l, ws, e, t _ _ h1, n, k _ _ n h2, Paired.mapP h3 fun v Kk ⟨m, e, n, h⟩ => ⟨m, e, n, k _ _ n h⟩⟩
abbrev sLex : Stmt := topS 48
abbrev nLex : List Str := ["_law_table_here", "_law_parties_here", "_law_found", "_law_known", "_law_k", "_law_at", "_law_sights_here", "_law_action", "_law_goal", "_law_fresh", "_law_key", "_law_party", "_law_sight"]
theorem scLex : FnScope nLex ["_law_table_here"] (defScope sLex) := ⟨rfl, rfl, rfl, by decide +kernel, rfl, by decide +kernel, by decide +kernel⟩
def spLex : Sp := fun vs H Q _ => ∃ x T, vs = [x] ∧ RTbl H x T ∧ Good T ∧ (∀ H', Same H H' → Q .non H') ∧ (¬ Many T → ∀ (H' : Hp) (q : Addr), Same H H' → H q = none → Q (.ref q) H')
section
variable {P : Program} {w : World} {K : PySem.W.Frag} {mg : Str → Option Value} {base : Heap}
theorem ok_lex {f fP fU fS : Addr} {fd fdP fdU fdS : FuncData} {k : Nat} (F : Fun K "_law_explored" "_law_explored" sLex f fd)
    (GP : FnOk P w K mg base CX0 k fP fdP ["_law_table_here"] spLpa) (kP : PySem.W.keepIn K (.ref fP) = true) (bP : Binds K fdP ["_law_table_here"] []) (gP : mg "_law_parties" = some (.ref fP))
    (GU : FnOk P w K mg base CX0 k fU fdU ["_law_table_here", "_law_states", "_law_party"] spLun) (kU : PySem.W.keepIn K (.ref fU) = true) (bU : Binds K fdU ["_law_table_here", "_law_states", "_law_party"] []) (gU : mg "_law_unseen" = some (.ref fU))
    (GS : FnOk P w K mg base CX0 k fS fdS ["_law_table_here", "_law_parties_here", "_law_sights_here", "_law_action"] spLsi) (kS : PySem.W.keepIn K (.ref fS) = true) (bS : Binds K fdS ["_law_table_here", "_law_parties_here", "_law_sights_here", "_law_action"] []) (gS : mg "_law_sights" = some (.ref fS))
    (mR : mg "range" = none) (mL : mg "len" = none) (mT : mg "tuple" = none) : FnOk P w K mg base CX0 (k + 1) f fd ["_law_table_here"] spLex := by
  refine F.ok scLex (fun vs H Q E h => ?_) (fun cdv A outer s0 H vs Q E hr h => ?_)
  · obtain ⟨x, T, rfl, _⟩ := h
    rfl
  · obtain ⟨x, T, rfl, hT, hgood, qn, qr⟩ := h
    have nd := scLex.nd
    have hu := hu_of hr
    refine ⟨_, pss_cons (ps_set (i := 1) nd rfl (.inl rfl) (pe_call GP hr (by rfl) gP kP bP .nil pass0 (pa_cons (pv 0) pa_nil)))
      (pss_cons (ps_set (i := 2) nd rfl (.inl rfl) (pe_lst (pa_cons (pe_tup (pa_cons pe_int (pa_cons (pe_lc (own := [("_law_party", 11)]) (g := gName 11) (by rfl) nd (pi_list (pv 1)) (blkOk_by (N := nLex) (sc := defScope sLex) (by decide +kernel)) (fun _ _ _ _ _ => pg_name (i := 11) nd rfl (Or.inl rfl)) (fun _ _ _ _ _ => pts_nil)
          (fun _ _ _ _ _ => pe_call GU hr (by rfl) gU kU bU .nil pass0 (pa_cons (pv 0) (pa_cons (pe_lst (pa_cons pe_int pa_nil)) (pa_cons (pv 11) pa_nil))))) pa_nil))) pa_nil)))
      (pss_cons (ps_set (i := 3) nd rfl (.inl rfl) (pe_disp1N hr.units (pe_tup (pa_cons pe_int (pa_cons (pe_callTy (cr_tup (K := K) rfl) (by rfl) mT (by decide +kernel) (pa_cons
          (pe_lc (own := [("_law_sight", 12)]) (g := gName 12) (by rfl) nd (pi_list (pe_ix ix_tup (pe_ix ix_list (pv 2) pe_int (fun _ _ => rfl)) pe_int (fun _ _ => rfl))) (blkOk_by (N := nLex) (sc := defScope sLex) (by decide +kernel)) (fun _ _ _ _ _ => pg_name (i := 12) nd rfl (Or.inl rfl)) (fun _ _ _ _ _ => pts_nil)
            (fun _ _ _ _ _ => pe_callTy (cr_tup (K := K) rfl) (by rfl) mT (by decide +kernel) (pa_cons (pv 12) pa_nil))) pa_nil)) pa_nil))) pe_bl))
      (pss_cons (ps_for PassesOwn.never rfl (pi_range1 (by rfl) mR (pa_cons pe_int pa_nil)) (pg_name (i := 4) nd rfl (.inl rfl))
        (pss_cons (ps_if (pt_cmp (pc_ge (pv 4) (pe_callB call_len_seq (by rfl) mL (by decide +kernel) (pa_cons (pv 2) pa_nil)))) (pss_one (ps_ret (pv 2))) pss_nil)
        (pss_cons (ps_asg (pe_ix ix_list (pv 2) (pv 4) (fun _ _ => rfl)) (pg_tup rfl (pgs_cons (pg_name (i := 5) nd rfl (.inl rfl)) (pgs_cons (pg_name (i := 6) nd rfl (.inl rfl)) pgs_nil))))
        (pss_one (ps_for PassesOwn.never rfl (pi_tup (pe_ix ix_tup (pe_ix ix_tup (pv 0) pe_int (fun _ _ => rfl)) (pv 5) (fun _ _ => rfl))) (pg_tup rfl (pgs_cons (pg_name (i := 7) nd rfl (.inl rfl)) (pgs_cons (pg_name (i := 8) nd rfl (.inl rfl)) pgs_nil)))
          (pss_cons (ps_set (i := 9) nd rfl (.inl rfl) (pe_call GS hr (by rfl) gS kS bS .nil pass0 (pa_cons (pv 0) (pa_cons (pv 1) (pa_cons (pv 6) (pa_cons (pv 7) pa_nil))))))
          (pss_cons (ps_set (i := 10) nd rfl (.inl rfl) (pe_tup (pa_cons (pv 8) (pa_cons (pe_callTy (cr_tup (K := K) rfl) (by rfl) mT (by decide +kernel) (pa_cons
            (pe_lc (own := [("_law_sight", 12)]) (g := gName 12) (by rfl) nd (pi_list (pv 9)) (blkOk_by (N := nLex) (sc := defScope sLex) (by decide +kernel)) (fun _ _ _ _ _ => pg_name (i := 12) nd rfl (Or.inl rfl)) (fun _ _ _ _ _ => pts_nil)
              (fun _ _ _ _ _ => pe_callTy (cr_tup (K := K) rfl) (by rfl) mT (by decide +kernel) (pa_cons (pv 12) pa_nil))) pa_nil)) pa_nil))))
          (pss_one (ps_if (pt_cmpR (op_notinN hr.units) (pv 10) (pv 3) (by rfl))
            (pss_cons (ps_asg pe_bl (pg_sub (pv 3) (pv 10) (set_N hr.units)))
            (pss_one (ps_expr (pe_bm PySem.F.plainAttrs_list PySem.F.slot_list_append PySem.F.type_list_append mt_append (pv 2) (pa_cons (pe_tup (pa_cons (pv 8) (pa_cons (pv 9) pa_nil))) pa_nil))))) pss_nil)))))))))
      (pss_one (ps_ret pe_non))))), ?_⟩
    have sz := sizeLine_eq
    have hok := hgood.ok
    have nno : ∀ {H' : Hp} {b dk : Addr} {kvs : List NKV} {o : HO}, H' b = some o → ND P w H' dk kvs → (∀ a l, o ≠ NDo P w a l) → b ≠ dk := fun h n ho e => by
      rw [e, n.pt] at h
      exact ho _ _ (Option.some.inj h).symm
    obtain ⟨pt, vr, ve, rfl, hpt, ⟨pr, vrs, rfl, hpr, prs⟩, _⟩ := id hT
    refine ⟨_, rfl, _, T, rfl, hT, hgood.ps, fun H1 dp ps s1 ndp hdp hpl hpm => ?_⟩
    have hT1 := RTbl.mono _ _ _ _ s1 hT
    refine ⟨.ref dp, rfl, dp, rfl, ⟨_, SqL.of hdp⟩, fun dl ndl => lc_it (walk_list (xs := ps.map V.str)) (fun i H2 => Same H1 H2 ∧ ∃ ws Ks, H2 dl = some (.lst ws) ∧ Paired (fun v (Kk : List Nat) => ∃ m, v = V.ref m ∧ m ≠ dl ∧ H2 m = some (.lst (Kk.map fun n : Nat => V.int (n : Int)))) ws Ks ∧ Paired (fun p (Kk : List Nat) => Asc Kk ∧ ∀ g, g ∈ Kk ↔ Kn T p [] g) (ps.take i) Ks)
      ⟨same_upd ndl, [], [], upd_same, .nil, .nil⟩ (fun i H2 _ ⟨s2, _⟩ => SqL.of (s2 _ _ hdp)) ?_ ?_⟩
    · rintro i y H2 H3 hi ⟨s2, ws, Ks, hdl, hws, hks⟩ ⟨rfl, hy⟩
      obtain ⟨p, hp, rfl⟩ : ∃ p, ps[i]? = some p ∧ y = .str p := by
        rw [List.getElem?_map] at hy
        cases e : ps[i]? with
        | none => rw [e] at hy; cases hy
        | some p => rw [e] at hy; exact ⟨p, rfl, (Option.some.inj hy).symm⟩
      have hi2 : i < ps.length := (List.getElem?_eq_some_iff.mp hp).1
      have wl : ws.length ≤ 60 := by
        have h1 := plen hws
        have h2 := plen hks
        rw [List.length_take] at h2
        omega
      refine ⟨rfl, iteT (B := True) ⟨_, rfl, Nat.le_of_ble_eq_true rfl, fun l0 nl0 => ?_⟩⟩
      have sL := same_upd (o := .lst [.int 0]) nl0
      refine ⟨_, rfl, _, T, p, l0, [0], rfl, RTbl.mono _ _ _ _ (s2.trans sL) hT1, hok, hgood.len, hgood.rowlen, upd_same, fun s hs => ?_, by simp, fun H4 qm l s4 nq hl al hm => ?_⟩
      · have : s = 0 := by simpa using hs
        rw [this]
        exact hok.pos
      have s24 := sL.trans s4
      have hdl4 := s24 _ _ hdl
      have nqd : qm ≠ dl := fun e => by rw [e, sL _ _ hdl] at nq; cases nq
      refine ⟨ws, hdl4, by rw [sz]; omega, same_re (s2.trans s24) ndl, ws ++ [.ref qm], Ks ++ [l], upd_same, psnoc (Paired.mapP hws fun v Kk ⟨m, e, n, h⟩ => ⟨m, e, n, by rw [upd_ne n]; exact s24 _ _ h⟩) ⟨qm, rfl, nqd, by rw [upd_ne nqd]; exact hl⟩, ?_⟩
      rw [take_snoc hp]
      refine psnoc hks ⟨al, fun g => ?_⟩
      rw [hm, kn_nil]
      simp
    rintro H2 ⟨s2, ws, Ks, hdl, hws, hks⟩
    rw [List.length_map, List.take_length] at hks
    refine ⟨Nat.le_of_ble_eq_true rfl, fun t0 nt0 => ⟨Nat.le_of_ble_eq_true rfl, fun df ndf => ?_⟩⟩
    have sT := same_upd (o := .tup [.int 0, .ref dl]) nt0
    have sF := sT.trans (same_upd (o := .lst [.ref t0]) ndf)
    have h1f : H1 df = none := (s2.trans sT).free ndf
    obtain ⟨H3, eH3⟩ : ∃ H3, H3 = L2.upd (L2.upd H2 t0 (.tup [.int 0, .ref dl])) df (.lst [.ref t0]) := ⟨_, rfl⟩
    rw [← eH3] at sF ⊢
    have hdf3 : H3 df = some (.lst [.ref t0]) := by rw [eH3, upd_same]
    have ht03 : H3 t0 = some (.tup [.int 0, .ref dl]) := by rw [eH3]; exact same_upd ndf _ _ upd_same
    have hdl3 := sF _ _ hdl
    have nnew : ∀ {b : Addr} {o : HO}, H2 b = some o → b ≠ df := fun h e => by rw [e] at h; rw [sT _ _ h] at ndf; cases ndf
    have s13 := s2.trans sF
    have en0 : REn df H3 (.ref t0) (0, Ks) := ⟨t0, dl, ws, rfl, ht03, nnew hdl, hdl3, Paired.mapP hws fun v Kk ⟨m, e, _, h⟩ => ⟨m, e, nnew h, sF _ _ h⟩⟩
    have sk0 : SK T ps [] (0, Ks) := ⟨rfl, hks⟩
    have kl : Ks.length = ps.length := (plen hks).symm
    have wl := plen hws
    intro dk ndk
    have h1k : H1 dk = none := s13.free ndk
    have sN := same_upd (o := NDo P w dk []) ndk
    refine ⟨.ref df, rfl, df, _, _, .ref t0, rfl, rfl, SqL.of (sN _ _ hdf3), atI_nat (j := 0) rfl, t0, _, _, .ref dl, rfl, rfl, SqT.of (sN _ _ ht03), atI_nat (j := 1) rfl, dl, rfl, ⟨_, SqL.of (sN _ _ hdl3)⟩, fun d5 nd5 => lc_it (walk_list (xs := ws)) (fun i H' => Same (L2.upd H3 dk (NDo P w dk [])) H' ∧ ∃ ts, H' d5 = some (.lst ts) ∧ Paired (RTs H') ts (Ks.take i))
      ⟨same_upd nd5, [], upd_same, .nil⟩ (fun i H' _ ⟨s', _⟩ => SqL.of (s' _ _ (sN _ _ hdl3))) ?_ ?_⟩
    · rintro i yv H' H'' hi ⟨s', ts, hts, pts⟩ ⟨rfl, hyi⟩
      obtain ⟨Kk, hKk, m, rfl, _, hm⟩ := pget hws hyi
      have tl : ts.length ≤ 60 := by
        have := plen pts
        rw [List.length_take] at this
        omega
      refine ⟨rfl, iteT (B := True) ⟨_, rfl, m, _, rfl, .inl ⟨SqL.of (s' _ _ (sN _ _ (sF _ _ hm))), fun tt ntt => ?_⟩⟩⟩
      have sT2 := same_upd (o := .tup (Kk.map fun n : Nat => V.int (n : Int))) ntt
      have hts2 := sT2 _ _ hts
      have tF : TSm (L2.upd H'' tt (.tup (Kk.map fun n : Nat => V.int (n : Int)))) (L2.upd (L2.upd H'' tt (.tup (Kk.map fun n : Nat => V.int (n : Int)))) d5 (.lst (ts ++ [.ref tt]))) := TSm.re hts2 (fun _ => nofun)
      refine ⟨ts, hts2, by rw [sz]; omega, same_re (s'.trans sT2) nd5, ts ++ [.ref tt], upd_same, ?_⟩
      rw [take_snoc hKk]
      exact psnoc (Paired.mapP pts fun v Kk ⟨t, e, h⟩ => ⟨t, e, tF _ _ (sT2 _ _ h)⟩) ⟨tt, rfl, tF _ _ upd_same⟩
    rintro H5 ⟨s5, ts, hts, pts⟩
    rw [wl, List.take_length] at pts
    refine ⟨d5, ts, rfl, .inl ⟨SqL.of hts, fun t1 nt1 => ⟨Nat.le_of_ble_eq_true rfl, fun tb ntb => ?_⟩⟩⟩
    have sA := same_upd (o := .tup ts) nt1
    have sB := sA.trans (same_upd (o := .tup [.int 0, .ref t1]) ntb)
    obtain ⟨H6, eH6⟩ : ∃ H6, H6 = L2.upd (L2.upd H5 t1 (.tup ts)) tb (.tup [.int 0, .ref t1]) := ⟨_, rfl⟩
    rw [← eH6] at sB ⊢
    have htb : H6 tb = some (.tup [.int ((0 : Nat) : Int), .ref t1]) := by rw [eH6, upd_same]; rfl
    have ht1 : H6 t1 = some (.tup ts) := by rw [eH6]; exact same_upd ntb _ _ upd_same
    have nr0 := nr_en (s := 0) htb ht1 (Paired.mapP pts fun v Kk ⟨t, e, h⟩ => ⟨t, e, sB _ _ h⟩)
    have s36 := (sN.trans s5).trans sB
    have hdk6 : H6 dk = some (NDo P w dk []) := (s5.trans sB) _ _ upd_same
    refine ⟨tb, [.num ((0 : Nat) : Int), .tup (Ks.map keyT)], rfl, hdk6, nr0, keyE_depth (0, Ks), fun hN => ?_⟩
    obtain ⟨H7, eH7⟩ : ∃ H7, H7 = L2.upd H6 dk (NDo P w dk [(.tup [.num ((0 : Nat) : Int), .tup (Ks.map keyT)], tb, .bl true)]) := ⟨_, rfl⟩
    have hN : ND P w H7 dk [(keyE (0, Ks), tb, .bl true)] := by rw [eH7]; exact hN
    have s37 : Same H3 H7 := by rw [eH7]; exact same_re s36 ndk
    -- the state at a turn
    let HI : Nat → List En → Hp → Prop := fun m fs H' => Same H1 H' ∧ (∃ vs, H' df = some (.lst vs) ∧ Paired (REn df H') vs fs) ∧ (∃ kvs, ND P w H' dk kvs ∧ kvs.map (·.1) = fs.map keyE) ∧ (∀ e ∈ fs, ∃ r, SK T ps r e) ∧ (∃ e ∈ fs, SK T ps [] e) ∧ fs.length ≤ m
    have hHI : HI 1 [(0, Ks)] H7 := by
      refine ⟨s13.trans s37, ⟨_, s37 _ _ hdf3, .cons (en0.keep (fun b o _ h => s37 _ _ h) (Same.ts s37)) .nil⟩, ⟨_, hN, rfl⟩, fun e he => ?_, ⟨_, List.mem_cons_self, sk0⟩, by simp⟩
      have : e = (0, Ks) := by simpa using he
      subst this
      exact ⟨[], sk0⟩
    rw [eH7] at hHI
    refine ⟨3001, rfl, by decide, by decide, for_it walk_rg (fun k σ H' => ∃ fs y4 y5 y6 y7 y8 y9 y10, σ = [some (.ref pt), some (.ref dp), some (.ref df), some (.ref dk), y4, y5, y6, y7, y8, y9, y10, none, none] ∧ HI (1 + 100 * k) fs H' ∧ CloE T ps fs k)
      ⟨[(0, Ks)], none, none, none, none, none, none, none, rfl, hHI, fun j s Ks hj => absurd hj (Nat.not_lt_zero j)⟩ (fun _ _ _ _ _ => trivial) ?_ ?_⟩
    · rintro k yv σ H8 H9 hk ⟨fs, y4, y5, y6, y7, y8, y9, y10, rfl, hHI, hclo⟩ ⟨rfl, rfl⟩
      have hk : k < 3001 := hk
      obtain ⟨sm, ⟨vs, hdf, hvs⟩, ⟨kvs, hnd, hkk⟩, hall, h0, hlen⟩ := id hHI
      have vl := plen hvs
      refine ⟨_, rfl, _, rfl, df, vs, rfl, .inl (SqL.of hdf), _, _, rfl, rfl, _, rfl, ite2 (fun e => ?_) (fun e => ?_)⟩
      · have e2 : ((vs.length : Nat) : Int) ≤ (k : Int) := of_decide_eq_true e
        exact ⟨_, rfl, qr (not_many hpm (fun j s Ks hj => hclo j s Ks (by omega)) h0 (by omega)) H9 df (s1.trans sm) (s1.free h1f)⟩
      have e2 : ¬ ((vs.length : Nat) : Int) ≤ (k : Int) := fun z => e (decide_eq_true z)
      have hkl : k < fs.length := by omega
      obtain ⟨⟨s, Kc⟩, he⟩ : ∃ e, fs[k]? = some e := ⟨_, List.getElem?_eq_getElem hkl⟩
      obtain ⟨v, hv, t, l, lws, rfl, ht, nl, hl, hlw⟩ := pget' hvs he
      obtain ⟨r, hSK⟩ := hall _ (List.mem_of_getElem? he)
      have hsl := walk_lt hok (show T.walk r = some s from hSK.1)
      refine ⟨.ref df, rfl, _, rfl, df, _, _, _, rfl, rfl, SqL.of hdf, atI_nat hv, t, _, rfl, SqT.of ht, rfl, _, _, rfl, _, _, rfl, rfl, ?_⟩
      obtain ⟨row, hrow⟩ : ∃ row, T.rows[s]? = some row := ⟨_, List.getElem?_eq_getElem hsl⟩
      have hrm : row ∈ T.rows := List.mem_of_getElem? hrow
      have hrl := hgood.rowlen row hrm
      obtain ⟨rv, hrv, p5, vs5, rfl, hp5, prow⟩ := pget' prs hrow
      have s0 := s1.trans sm
      have kcl : Kc.length = ps.length := (plen hSK.2).symm
      have kcm : ∀ Kk ∈ Kc, Asc Kk ∧ ∀ x ∈ Kk, x < T.rows.length := fun Kk hKk => by
        obtain ⟨p, _, a1, a2⟩ := pmem' hSK.2 hKk
        exact ⟨a1, fun x hx => kn_lt hok ((a2 x).mp hx)⟩
      refine ⟨.ref pt, rfl, pt, _, _, .ref pr, rfl, rfl, SqT.of (s0 _ _ hpt), atI_nat (j := 1) rfl, _, rfl, pr, _, _, .ref p5, rfl, rfl, SqT.of (s0 _ _ hpr), atI_nat hrv, p5, rfl, ⟨_, SqT.of (s0 _ _ hp5)⟩,
        for_it (walk_tup (xs := vs5)) (fun j σ H' => ∃ fs' y7 y8 y9 y10, σ = [some (.ref pt), some (.ref dp), some (.ref df), some (.ref dk), some (.int (k : Int)), some (.int (s : Int)), some (.ref l), y7, y8, y9, y10, none, none] ∧ HI (1 + 100 * k + j) fs' H' ∧ fs <+: fs' ∧ H' l = some (.lst lws) ∧ Paired (fun v (Kk : List Nat) => ∃ m, v = V.ref m ∧ m ≠ df ∧ H' m = some (.lst (Kk.map fun n : Nat => V.int (n : Int)))) lws Kc ∧
            ∀ p ∈ row.take j, ∃ Fs, (p.2, Fs) ∈ fs' ∧ StK T p.1 ps Kc Fs)
        ⟨fs, _, _, _, _, rfl, hHI, List.prefix_rfl, hl, hlw, by simp⟩ ?_ ?_ ?_⟩
      · rintro j σ H' _ ⟨_, _, _, _, _, _, ⟨s', _⟩, _⟩
        exact SqT.of ((s1.trans s') _ _ hp5)
      · rintro j yv σ H10 H11 hj ⟨fs', y7, y8, y9, y10, rfl, ⟨s10, ⟨vs', hdf', hvs'⟩, ⟨kv', hnd', hkk'⟩, hall', h0', hlen'⟩, pre, hl', hlw', hdone⟩ ⟨rfl, hyj⟩
        obtain ⟨pq, hpq, p6, va, vb, rfl, hp6, hva, hvb⟩ := pget prow hyj
        have hb : vb = .int (pq.2 : Int) := hvb
        subst hb
        have hj1 : j < 100 := by rw [plen prow] at hj; omega
        have hnx := hok.next_of hrow (List.mem_of_getElem? hpq)
        have s010 := s1.trans s10
        refine ⟨p6, _, rfl, SqT.of (s010 _ _ hp6), rfl, va, _, rfl, _, _, rfl, rfl, ?_⟩
        refine ⟨_, rfl, _, rfl, _, rfl, _, rfl, _, va, T, pq.1, dp, l, df, _, lws, ps, Kc, rfl, RTbl.mono _ _ _ _ s010 hT, hok, hgood.len, hgood.rowlen, s10 _ _ hdp, hdf', hl', hlw', kcl, hpl, kcm, RAct.mono _ _ _ _ s010 hva, fun H12 qf fvs Fs s12 nqf hqf1 hfv hst => ?_⟩
        have fvl := plen hfv
        have fsl := hst.1
        refine ⟨_, rfl, .ref qf, rfl, qf, rfl, ⟨_, SqL.of hqf1⟩, fun d6 nd6 => lc_it (walk_list (xs := fvs)) (fun i H' => Same H12 H' ∧ ∃ ts, H' d6 = some (.lst ts) ∧ Paired (RTs H') ts (Fs.take i))
          ⟨same_upd nd6, [], upd_same, .nil⟩ (fun i H' _ ⟨s', _⟩ => SqL.of (s' _ _ hqf1)) ?_ ?_⟩
        · rintro i yv H' H'' hi ⟨s', ts, hts, pts⟩ ⟨rfl, hyi⟩
          obtain ⟨Kk, hKk, m, rfl, _, hm⟩ := pget hfv hyi
          have tl : ts.length ≤ 60 := by
            have := plen pts
            rw [List.length_take] at this
            omega
          refine ⟨rfl, iteT (B := True) ⟨_, rfl, m, _, rfl, .inl ⟨SqL.of (s' _ _ hm), fun tt ntt => ?_⟩⟩⟩
          have sT2 := same_upd (o := .tup (Kk.map fun n : Nat => V.int (n : Int))) ntt
          have hts2 := sT2 _ _ hts
          have tF : TSm (L2.upd H'' tt (.tup (Kk.map fun n : Nat => V.int (n : Int)))) (L2.upd (L2.upd H'' tt (.tup (Kk.map fun n : Nat => V.int (n : Int)))) d6 (.lst (ts ++ [.ref tt]))) := TSm.re hts2 (fun _ => nofun)
          refine ⟨ts, hts2, by rw [sz]; omega, same_re (s'.trans sT2) nd6, ts ++ [.ref tt], upd_same, ?_⟩
          rw [take_snoc hKk]
          exact psnoc (Paired.mapP pts fun v Kk ⟨t, e, h⟩ => ⟨t, e, tF _ _ (sT2 _ _ h)⟩) ⟨tt, rfl, tF _ _ upd_same⟩
        rintro H13 ⟨s13', ts6, hts6, pts6⟩
        rw [fvl, List.take_length] at pts6
        refine ⟨d6, ts6, rfl, .inl ⟨SqL.of hts6, fun t7 nt7 => ⟨Nat.le_of_ble_eq_true rfl, fun tk ntk => ?_⟩⟩⟩
        have sA7 := same_upd (o := .tup ts6) nt7
        have sB7 := sA7.trans (same_upd (o := .tup [.int (pq.2 : Int), .ref t7]) ntk)
        obtain ⟨H14, eH14⟩ : ∃ H14, H14 = L2.upd (L2.upd H13 t7 (.tup ts6)) tk (.tup [.int (pq.2 : Int), .ref t7]) := ⟨_, rfl⟩
        rw [← eH14] at sB7 ⊢
        have htk : H14 tk = some (.tup [.int (pq.2 : Int), .ref t7]) := by rw [eH14, upd_same]
        have ht7 : H14 t7 = some (.tup ts6) := by rw [eH14]; exact same_upd ntk _ _ upd_same
        have nrk := nr_en (s := pq.2) htk ht7 (Paired.mapP pts6 fun v Kk ⟨t, e, h⟩ => ⟨t, e, sB7 _ _ h⟩)
        have s1014 : Same H11 H14 := (s12.trans s13').trans sB7
        have nd14 := hnd'.same s1014
        have hdf14 := s1014 _ _ hdf'
        have hvs14 : Paired (REn df H14) vs' fs' := pmono hvs' fun v e h => h.keep (fun b o _ h => s1014 _ _ h) (Same.ts s1014)
        have mk := nd_keys hkk' (pq.2, Fs)
        have vl' := plen hvs'
        have kvl : kv'.length = fs'.length := by have := congrArg List.length hkk'; simpa using this
        have takeIn : ∀ {fs2 : List En}, fs' <+: fs2 → (pq.2, Fs) ∈ fs2 → ∀ p ∈ row.take (j + 1), ∃ Fs, (p.2, Fs) ∈ fs2 ∧ StK T p.1 ps Kc Fs := by
          intro fs2 pf hin p hp
          rw [take_snoc hpq] at hp
          rcases List.mem_append.mp hp with hp | hp
          · obtain ⟨F', h1, h2⟩ := hdone p hp
            exact ⟨F', pf.subset h1, h2⟩
          · have : p = pq := by simpa using hp
            subst this
            exact ⟨Fs, hin, hst⟩
        refine ⟨_, rfl, _, rfl, dk, kv', keyE (pq.2, Fs), rfl, nd14, ⟨_, rfl⟩, nrk, keyE_depth _, _, rfl, ite2 (fun e => ?_) (fun e => ?_)⟩
        · have e : (!(ndVal kv' (keyE (pq.2, Fs))).isSome) = true := e
          have hnew : (pq.2, Fs) ∉ fs' := fun z => by rw [mk.mpr z] at e; cases e
          have hvn : ndVal kv' (keyE (pq.2, Fs)) = none := by
            cases h : ndVal kv' (keyE (pq.2, Fs)) with
            | none => rfl
            | some v => rw [h] at e; cases e
          refine ⟨_, rfl, _, rfl, dk, tk, kv', keyE (pq.2, Fs), rfl, rfl, nd14, ⟨_, rfl⟩, nrk, keyE_depth _, by rw [sz]; omega, fun hN2 => ?_⟩
          have eput := ndPut_new (a := tk) (v := .bl true) hvn
          obtain ⟨H15, eH15⟩ : ∃ H15, H15 = L2.upd H14 dk (NDo P w dk (ndPut kv' (keyE (pq.2, Fs)) tk (.bl true))) := ⟨_, rfl⟩
          have hN15 : ND P w H15 dk (ndPut kv' (keyE (pq.2, Fs)) tk (.bl true)) := by rw [eH15]; exact hN2
          have t15 : TSm H14 H15 := by rw [eH15]; exact TSm.re nd14.pt nd14.not_tup
          have k15 : ∀ {b : Addr} {xs : List V}, H14 b = some (.lst xs) → H15 b = some (.lst xs) := fun h => by
            rw [eH15, upd_ne (nno h nd14 (fun _ _ e => nomatch e))]
            exact h
          have s115 : Same H1 H15 := by rw [eH15]; exact same_re (s10.trans s1014) h1k
          have hdf15 := k15 hdf14
          refine ⟨.ref df, rfl, .inl ⟨rfl, _, .inl (.inl (by have z := hdf15; rw [eH15] at z; exact z))⟩, _, rfl, .ref qf, rfl, Nat.le_of_ble_eq_true rfl, fun tn ntn => ?_⟩
          have ntn : H15 tn = none := by rw [eH15]; exact ntn
          have sTn := same_upd (H := H15) (o := .tup [.int (pq.2 : Int), .ref qf]) ntn
          have hdf16 := sTn _ _ hdf15
          refine ⟨df, vs', _, rfl, rfl, by have z := hdf16; rw [eH15] at z; exact z, by rw [sz]; omega, ?_⟩
          have tF : TSm (L2.upd H15 tn (.tup [.int (pq.2 : Int), .ref qf])) (L2.upd (L2.upd H15 tn (.tup [.int (pq.2 : Int), .ref qf])) df (.lst (vs' ++ [.ref tn]))) := TSm.re hdf16 (fun _ => nofun)
          have t16 := (t15.trans (Same.ts sTn)).trans tF
          have kF : ∀ {b : Addr} {xs : List V}, b ≠ df → H14 b = some (.lst xs) → (L2.upd (L2.upd H15 tn (.tup [.int (pq.2 : Int), .ref qf])) df (.lst (vs' ++ [.ref tn]))) b = some (.lst xs) := fun n h => by
            rw [upd_ne n]
            exact sTn _ _ (k15 h)
          have dkf : dk ≠ df := (nno hdf14 nd14 (fun _ _ e => nomatch e)).symm
          have hqf14 := (s13'.trans sB7) _ _ hqf1
          have nqd : qf ≠ df := fun e => by rw [e, hdf'] at nqf; cases nqf
          have pre2 : fs' <+: fs' ++ [(pq.2, Fs)] := List.prefix_append _ _
          have newM : ∀ {b : Addr} {o : HO}, H12 b = some o → H11 b = none → b ≠ df := fun _ h2 e => by rw [e, hdf'] at h2; cases h2
          subst eH15
          refine ⟨fs' ++ [(pq.2, Fs)], _, _, _, _, rfl, ⟨same_re (s115.trans sTn) h1f, ⟨_, upd_same, psnoc ?_ ?_⟩, ⟨_, hN15.tm ((Same.ts sTn).trans tF) ?_, ?_⟩, fun e he => ?_, ?_, by rw [List.length_append, List.length_singleton]; omega⟩, pre.trans pre2, kF nl (s1014 _ _ hl'), ?_, takeIn pre2 (by simp)⟩
          · refine Paired.mapP hvs14 ?_
            intro v e h
            obtain ⟨q1, q2, q3, q4, h1, n, h2, h3⟩ := h
            exact ⟨q1, q2, q3, q4, t16 _ _ h1, n, kF n h2, Paired.mapP h3 fun v Kk ⟨m, e, n, h⟩ => ⟨m, e, n, kF n h⟩⟩
          · refine ⟨tn, qf, fvs, rfl, tF _ _ upd_same, nqd, kF nqd hqf14, Paired.mapP hfv ?_⟩
            intro v Kk h
            obtain ⟨m, e, nmd, hm⟩ := h
            have hm14 := (s13'.trans sB7) _ _ hm
            exact ⟨m, e, nmd, kF nmd hm14⟩
          · exact (upd_ne dkf).trans (upd_ne (ne_of_none hN15.pt ntn))
          · rw [eput, List.map_append, hkk', List.map_append]
            rfl
          · rcases List.mem_append.mp he with he | he
            · exact hall' e he
            · have : e = (pq.2, Fs) := by simpa using he
              subst this
              exact ⟨r ++ [pq.1], hSK.step hnx hst⟩
          · obtain ⟨e, h1, h2⟩ := h0'
            exact ⟨e, pre2.subset h1, h2⟩
          · refine Paired.mapP hlw' ?_
            intro v Kk h
            obtain ⟨m, e, n, h⟩ := h
            exact ⟨m, e, n, kF n (s1014 _ _ h)⟩
        · have hin : (pq.2, Fs) ∈ fs' := by
            refine mk.mp ?_
            cases h : (ndVal kv' (keyE (pq.2, Fs))).isSome with
            | true => rfl
            | false =>
              have e : ¬ (!(ndVal kv' (keyE (pq.2, Fs))).isSome) = true := e
              rw [h] at e
              exact absurd rfl e
          exact ⟨fs', _, _, _, _, rfl, ⟨s10.trans s1014, ⟨_, hdf14, hvs14⟩, ⟨_, nd14, hkk'⟩, hall', h0', by omega⟩, pre, s1014 _ _ hl', Paired.mapP hlw' fun v Kk ⟨m, e, n, h⟩ => ⟨m, e, n, s1014 _ _ h⟩, takeIn List.prefix_rfl hin⟩
      · rintro σ H10 ⟨fs', y7, y8, y9, y10, rfl, ⟨s10, c1, c2, hall', h0', hlen'⟩, pre, hl', hlw', hdone⟩
        have et : row.take vs5.length = row := by rw [plen prow]; exact List.take_length
        rw [et] at hdone
        have el5 : vs5.length = row.length := plen prow
        refine ⟨fs', _, _, _, _, _, _, _, rfl, ⟨s10, c1, c2, hall', h0', by omega⟩, fun j2 s2 Ks2 hj2 hf2 a g hg => ?_⟩
        by_cases e3 : j2 < k
        · have hf3 : fs[j2]? = some (s2, Ks2) := by
            have h1 : j2 < fs.length := by omega
            have h2 := pre_get pre (List.getElem?_eq_getElem h1)
            rw [h2] at hf2
            rw [List.getElem?_eq_getElem h1]
            exact hf2
          obtain ⟨F', w1, w2⟩ := hclo j2 s2 Ks2 e3 hf3 a g hg
          exact ⟨F', pre.subset w1, w2⟩
        · have : j2 = k := by omega
          subst this
          have h2 := pre_get pre he
          rw [h2] at hf2
          cases hf2
          obtain ⟨row', w1, w2⟩ := Tbl.OK.of_next hg
          rw [hrow] at w1
          cases w1
          exact hdone _ w2
    · rintro σ H8 ⟨fs, y4, y5, y6, y7, y8, y9, y10, rfl, hHI, _⟩
      exact qn H8 (s1.trans hHI.1)
end
end PL
namespace PL
open PySem PySem.Spec PyProof.Rows L2
abbrev sLto : Stmt := topS 49
abbrev nLto : List Str := ["_law_table_here"]
theorem scLto : FnScope nLto ["_law_table_here"] (defScope sLto) := ⟨rfl, rfl, rfl, by decide +kernel, rfl, by decide +kernel, by decide +kernel⟩
def spLto : Sp := fun vs H Q _ => ∃ x T, vs = [x] ∧ RTbl H x T ∧ Good T ∧ (Many T → ∀ H', Same H H' → Q .non H') ∧
  (∀ (H' : Hp) (q : Addr) (b1 b2 : Bool), Same H H' → H q = none → H' q = some (.tup [.bl b1, .bl b2]) → (b1 = true ↔ Acc2 T) → (b2 = true ↔ Ready T) → Q (.ref q) H')
section
variable {P : Program} {w : World} {K : PySem.W.Frag} {mg : Str → Option Value} {base : Heap}
theorem ok_lto {f fC fU C : Addr} {fd fdC fdU : FuncData} {k : Nat} (F : Fun K "_law_told" "_law_told" sLto f fd)
    (GC : FnOk P w K mg base (L2.CX P w) k fC fdC ["table"] (spChk C)) (kC : PySem.W.keepIn K (.ref fC) = true) (bC : Binds K fdC ["table"] []) (gC : mg "check" = some (.ref fC))
    (GU : FnOk P w K mg base (L2.CX P w) k fU fdU ["table"] (spUnr C)) (kU : PySem.W.keepIn K (.ref fU) = true) (bU : Binds K fdU ["table"] []) (gU : mg "unready" = some (.ref fU))
    (gT : mg "TooLarge" = some (.ref C)) (xC : PySem.W.exmOne K (.ref C) (.ref C) = some true) : FnOk P w K mg base CX0 (k + 1) f fd ["_law_table_here"] spLto := by
  refine F.ok scLto (fun vs H Q E h => ?_) (fun cdv A outer s0 H vs Q E hr h => ?_)
  · obtain ⟨x, T, rfl, _⟩ := h
    rfl
  · obtain ⟨x, T, rfl, hT, hgood, qm, q⟩ := h
    have nd := scLto.nd
    refine ⟨_, pss_one (ps_try_only (Wout := fun _ _ _ _ => False) rfl rfl ⟨rfl, by decide, .inl gT⟩ takes0
      (fun W pn xe tk _ => pss_one (ps_ret (pe_tup (pa_cons (pe_cmpR (op_eqF hr.units) (pe_callS GC hr (by rfl) gC kC bC (fun σ => passAt tk σ) (pa_cons (pv 0) pa_nil)) (pe_tup (pa_cons pe_str pa_nil)) (nomark _))
        (pa_cons (pe_cmp (pc_isN (pe_callS GU hr (by rfl) gU kU bU (fun σ => passAt tk σ) (pa_cons (pv 0) pa_nil)))) pa_nil)))))
      (fun a oe cls d pn _ _ => pss_one (ps_ret pe_non))), ?_⟩
    have exc : Many T → ∀ H', Same H H' → wOnly K (.ref C) (fun _ _ _ D σ H => D.rt .non H) (fun _ _ _ _ => False) { nx := fun _ H' => Q .non H', rt := Q } (.ref C) none [some x] H' := fun hm H' s' => ⟨true, xC, fun _ a _ => qm hm H' s', nofun⟩
    have fin : ∀ (b1 : Bool) (H2 : Hp), Same H H2 → (b1 = true ↔ Acc2 T) → tCons (tIsN (tCallS (spUnr C) (WE (wOnly K (.ref C) (fun _ _ _ => tRet (tC V.non)) (fun _ _ _ _ => False) { nx := fun _ H' => Q .non H', rt := Q })) (tCons (tVar 0) tNil))) tNil (L2.start nLto [x]) H2
        (fun xs H1 => (V.bl b1 :: xs).length ≤ sizeLine ∧ ∀ (p : Addr), H1 p = none → Q (.ref p) (L2.upd H1 p (.tup (V.bl b1 :: xs)))) := by
      intro b1 H2 s2 e1
      refine ⟨_, rfl, x, T, rfl, RTbl.mono _ _ _ _ s2 hT, hgood, fun rd H3 s3 => ?_, fun nrd H3 d s3 nd2 => ?_, fun hm H' s' => exc hm H' (s2.trans s')⟩
      · refine ⟨Nat.le_of_ble_eq_true rfl, fun p np => q _ p b1 true ((s2.trans s3).trans (same_upd np)) ((s2.trans s3).free np) upd_same e1 ⟨fun _ => rd, fun _ => rfl⟩⟩
      · refine ⟨Nat.le_of_ble_eq_true rfl, fun p np => q _ p b1 false ((s2.trans s3).trans (same_upd np)) ((s2.trans s3).free np) upd_same e1 ⟨(fun e => by cases e), fun e => (nrd e).elim⟩⟩
    refine ⟨_, rfl, x, T, rfl, hT, hgood, fun acc H1 a s1 na ha => ?_, fun nacc H1 a t xs s1 na ha ht => ?_, fun hm H' s' => exc hm H' s'⟩
    · refine ⟨Nat.le_of_ble_eq_true rfl, fun b nb => ⟨a, b, _, _, [], rfl, rfl, same_upd nb _ _ ha, upd_same, ?_⟩⟩
      have := fin true _ (s1.trans (same_upd (o := .tup [.str "fine"]) nb)) ⟨fun _ => acc, fun _ => rfl⟩
      rw [decide_eq_true rfl]
      exact this
    · refine ⟨Nat.le_of_ble_eq_true rfl, fun b nb => ⟨a, b, _, _, xs, rfl, rfl, same_upd nb _ _ ha, upd_same, ?_⟩⟩
      have := fin false _ (s1.trans (same_upd (o := .tup [.str "fine"]) nb)) ⟨(fun e => by cases e), fun e => (nacc e).elim⟩
      rw [decide_eq_false ht]
      exact this
end
end PL
namespace PL
open PySem PySem.Spec PyProof.Rows L2
abbrev sLaw : Stmt := topS 50
abbrev nLaw : List Str := ["_law_script", "_law_state_here", "_law_names_here", "_law_labels", "_law_one", "_law_other", "_law_both", "_law_told_here"]
theorem scLaw : FnScope nLaw ["_law_script"] (defScope sLaw) := ⟨rfl, rfl, rfl, by decide +kernel, rfl, by decide +kernel, by decide +kernel⟩
def spLaw (K : PySem.W.Frag) : Sp := fun vs H Q _ => ∃ (p : Addr) (ns : List Int), vs = [.ref p] ∧ SqL K H p (ns.map V.int) ∧ ns.length ≤ 1000 ∧ ∀ H', Q (.bl true) H'
theorem law_spec {K : PySem.W.Frag} {H : Hp} {a : Addr} {ns : List Int} (hl : ns.length ≤ 63) (hS : SqL K H a (ns.map V.int)) : spLaw K [.ref a] H (fun v _ => v = .bl true) fun _ _ _ => False :=
  ⟨a, ns, rfl, hS, by omega, fun _ => rfl⟩
/-- what _law_told said of a table: nothing, or two answers -/
def RO (H : Hp) (v : V) : Option (Bool × Bool) → Prop
  | none => v = .non
  | some b => ∃ q, v = .ref q ∧ H q = some (.tup [.bl b.1, .bl b.2])
def TO (T : Tbl) : Option (Bool × Bool) → Prop
  | none => Many T
  | some b => (b.1 = true ↔ Acc2 T) ∧ (b.2 = true ↔ Ready T)
theorem RO.same {H H' : Hp} {v : V} {o : Option (Bool × Bool)} (h : RO H v o) (s : Same H H') : RO H' v o := by
  cases o with
  | none => exact h
  | some b => exact let ⟨q, e, h⟩ := h; ⟨q, e, s _ _ h⟩
theorem lto_of {x : V} {T : Tbl} {H : Hp} {Q : VK} {E : XK} (hT : RTbl H x T) (hg : Good T) (h : ∀ v H' o, Same H H' → RO H' v o → TO T o → Q v H') : spLto [x] H Q E :=
  ⟨x, T, rfl, hT, hg, fun hm H' s => h _ H' none s rfl hm, fun H' q b1 b2 s _ hq e1 e2 => h _ H' (some (b1, b2)) s ⟨q, rfl, hq⟩ ⟨e1, e2⟩⟩
def dat : Option (Bool × Bool) → PyData
  | none => .none
  | some b => .tuple [.bool b.1, .bool b.2]
theorem RO.dp {K : PySem.W.Frag} {H : Hp} {v : V} : ∀ {o : Option (Bool × Bool)}, RO H v o → Dp K H v (dat o)
  | none, h => by
    rw [show v = .non from h]
    exact .non
  | some b, ⟨q, e, h⟩ => by
    subst e
    exact .tup (SqT.of h) (.cons (.bl _) (.cons (.bl _) .nil))
theorem dat_shaped : ∀ o : Option (Bool × Bool), SeqAt.shaped (dat o) = true
  | none => by decide
  | some (true, true) => by decide
  | some (true, false) => by decide
  | some (false, true) => by decide
  | some (false, false) => by decide
theorem dat3_shaped (a b c : Option (Bool × Bool)) : SeqAt.shaped (.list [dat a, dat b, dat c]) = true := by
  rcases a with _ | ⟨_, _⟩ <;> rcases b with _ | ⟨_, _⟩ <;> rcases c with _ | ⟨_, _⟩ <;> rfl
theorem dat_none : ∀ o : Option (Bool × Bool), PyData.eqv (dat o) .none = o.isNone
  | none => by decide
  | some (_, _) => rfl
theorem dat_eq : ∀ b : Bool × Bool, PyData.eqv (dat (some b)) (dat (some b)) = true
  | (true, true) => by decide
  | (true, false) => by decide
  | (false, true) => by decide
  | (false, false) => by decide
theorem cut_lo {zs : List Str} {d : Nat} (h : zs.length = 6) (hd : d < 2) : cutV (zs.map V.str) none (some (2 + (d : Int))) = (zs.take (2 + d)).map V.str := by
  obtain ⟨a, b, c, x, y, z, rfl⟩ : ∃ a b c x y z, zs = [a, b, c, x, y, z] := by
    rcases zs with _ | ⟨a, _ | ⟨b, _ | ⟨c, _ | ⟨x, _ | ⟨y, _ | ⟨z, _ | ⟨u, zs⟩⟩⟩⟩⟩⟩⟩ <;> simp at h
    exact ⟨a, b, c, x, y, z, rfl⟩
  rcases (by omega : d = 0 ∨ d = 1) with rfl | rfl <;> rfl
theorem cut_hi {zs : List Str} {d : Nat} (h : zs.length = 6) (hd : d < 2) : cutV (zs.map V.str) (some 3) (some (5 + (d : Int))) = ((zs.drop 3).take (2 + d)).map V.str := by
  obtain ⟨a, b, c, x, y, z, rfl⟩ : ∃ a b c x y z, zs = [a, b, c, x, y, z] := by
    rcases zs with _ | ⟨a, _ | ⟨b, _ | ⟨c, _ | ⟨x, _ | ⟨y, _ | ⟨z, _ | ⟨u, zs⟩⟩⟩⟩⟩⟩⟩ <;> simp at h
    exact ⟨a, b, c, x, y, z, rfl⟩
  rcases (by omega : d = 0 ∨ d = 1) with rfl | rfl <;> rfl
theorem cut_apart {zs : List Str} {d e : Nat} (hn : zs.Nodup) (hd : d < 2) {p : Str} (h1 : p ∈ zs.take (2 + d)) (h2 : p ∈ (zs.drop 3).take (2 + e)) : False := by
  have e1 : p ∈ zs.take 3 := (List.take_subset_take_left zs (by omega : 2 + d ≤ 3)) h1
  have e2 := List.mem_of_mem_take h2
  have := List.take_append_drop 3 zs
  rw [← this] at hn
  exact (List.nodup_append.mp hn).2.2 p e1 p e2 rfl
theorem u65 {k : Nat} {A : Around} (r : Room k A) : A.units + 65 < cLine := by
  have := r.un
  omega
section
variable {P : Program} {w : World} {K : PySem.W.Frag} {mg : Str → Option Value} {base : Heap}
theorem ok_law {f fS fD fN fT fB fO fX : Addr} {fd fdS fdD fdN fdT fdB fdO fdX : FuncData} {k : Nat} (F : Fun K "law" "law" sLaw f fd)
    (GS : FnOk P w K mg base CX0 k fS fdS ["_law_script"] (spLst K)) (kS : PySem.W.keepIn K (.ref fS) = true) (bS : Binds K fdS ["_law_script"] []) (gS : mg "_law_state" = some (.ref fS))
    (GD : FnOk P w K mg base CX0 k fD fdD ["_law_state_here", "_law_limit"] spDraw) (kD : PySem.W.keepIn K (.ref fD) = true) (bD : Binds K fdD ["_law_state_here", "_law_limit"] []) (gD : mg "_law_draw" = some (.ref fD))
    (GN : FnOk P w K mg base CX0 k fN fdN ["_law_state_here", "_law_count", "_law_taken"] spNms) (kN : PySem.W.keepIn K (.ref fN) = true) (bN : Binds K fdN ["_law_state_here", "_law_count", "_law_taken"] []) (gN : mg "_law_names" = some (.ref fN))
    (GT : FnOk P w K mg base CX0 k fT fdT ["_law_state_here", "_law_parties_here", "_law_labels", "_law_size"] spTab) (kT : PySem.W.keepIn K (.ref fT) = true) (bT : Binds K fdT ["_law_state_here", "_law_parties_here", "_law_labels", "_law_size"] []) (gT : mg "_law_table" = some (.ref fT))
    (GB : FnOk P w K mg base CX0 k fB fdB ["one", "other"] spBes) (kB : PySem.W.keepIn K (.ref fB) = true) (bB : Binds K fdB ["one", "other"] []) (gB : mg "beside" = some (.ref fB))
    (GO : FnOk P w K mg base CX0 k fO fdO ["_law_table_here"] spLto) (kO : PySem.W.keepIn K (.ref fO) = true) (bO : Binds K fdO ["_law_table_here"] []) (gO : mg "_law_told" = some (.ref fO))
    (GX : FnOk P w K mg base CX0 k fX fdX ["_law_table_here"] spLex) (kX : PySem.W.keepIn K (.ref fX) = true) (bX : Binds K fdX ["_law_table_here"] []) (gX : mg "_law_explored" = some (.ref fX)) : FnOk P w K mg base CX0 (k + 1) f fd ["_law_script"] (spLaw K) := by
  refine F.ok scLaw (fun vs H Q E h => ?_) (fun cdv A outer s0 H vs Q E hr h => ?_)
  · obtain ⟨p, ns, rfl, _⟩ := h
    rfl
  · obtain ⟨p, ns, rfl, hp, hns, q⟩ := h
    have nd := scLaw.nd
    refine ⟨_, pss_cons (ps_set (i := 1) nd rfl (.inl rfl) (pe_call GS hr (by rfl) gS kS bS .nil pass0 (pa_cons (pv 0) pa_nil)))
      (pss_cons (ps_set (i := 2) nd rfl (.inl rfl) (pe_call GN hr (by rfl) gN kN bN .nil pass0 (pa_cons (pv 1) (pa_cons pe_int (pa_cons (pe_lst pa_nil) pa_nil)))))
      (pss_cons (ps_set (i := 3) nd rfl (.inl rfl) (pe_call GN hr (by rfl) gN kN bN .nil pass0 (pa_cons (pv 1) (pa_cons (pe_add pe_int (pe_call GD hr (by rfl) gD kD bD .nil pass0 (pa_cons (pv 1) (pa_cons pe_int pa_nil)))) (pa_cons (pe_lst pa_nil) pa_nil)))))
      (pss_cons (ps_set (i := 4) nd rfl (.inl rfl) (pe_call GT hr (by rfl) gT kT bT .nil pass0 (pa_cons (pv 1) (pa_cons (pe_slice sl_list (pv 2) po_none (po_some (pe_add pe_int (pe_call GD hr (by rfl) gD kD bD .nil pass0 (pa_cons (pv 1) (pa_cons pe_int pa_nil)))))) (pa_cons (pv 3) (pa_cons (pe_add pe_int (pe_call GD hr (by rfl) gD kD bD .nil pass0 (pa_cons (pv 1) (pa_cons pe_int pa_nil)))) pa_nil))))))
      (pss_cons (ps_set (i := 5) nd rfl (.inl rfl) (pe_call GT hr (by rfl) gT kT bT .nil pass0 (pa_cons (pv 1) (pa_cons (pe_slice sl_list (pv 2) (po_some pe_int) (po_some (pe_add pe_int (pe_call GD hr (by rfl) gD kD bD .nil pass0 (pa_cons (pv 1) (pa_cons pe_int pa_nil)))))) (pa_cons (pv 3) (pa_cons (pe_add pe_int (pe_call GD hr (by rfl) gD kD bD .nil pass0 (pa_cons (pv 1) (pa_cons pe_int pa_nil)))) pa_nil))))))
      (pss_cons (ps_set (i := 6) nd rfl (.inl rfl) (pe_call GB hr (by rfl) gB kB bB .nil pass0 (pa_cons (pv 4) (pa_cons (pv 5) pa_nil))))
      (pss_cons (ps_set (i := 7) nd rfl (.inl rfl) (pe_lst (pa_cons (pe_call GO hr (by rfl) gO kO bO .nil pass0 (pa_cons (pv 4) pa_nil)) (pa_cons (pe_call GO hr (by rfl) gO kO bO .nil pass0 (pa_cons (pv 5) pa_nil)) (pa_cons (pe_call GO hr (by rfl) gO kO bO .nil pass0 (pa_cons (pv 6) pa_nil)) pa_nil)))))
      (pss_cons (ps_if (pt_cmpR (op_inD (u65 hr)) pe_non (pv 7) (by rfl)) (pss_one (ps_ret (pe_cmp (pc_isN (pe_call GX hr (by rfl) gX kX bX .nil pass0 (pa_cons (pe_ix ix_list (pe_lst (pa_cons (pv 4) (pa_cons (pv 5) (pa_cons (pv 6) pa_nil))))
          (pe_bm PySem.F.plainAttrs_list PySem.F.slot_list_index PySem.F.type_list_index (mt_indexD (u65 hr)) (pv 7) (pa_cons pe_non pa_nil)) (fun _ _ => rfl)) pa_nil)))))) pss_nil)
      (pss_one (ps_ret (pe_cmpR (op_eqD hr.units) (pe_ix ix_list (pv 7) pe_int (fun _ _ => rfl)) (pe_tup
        (pa_cons (pe_and (pe_ix ix_tup (pe_ix ix_list (pv 7) pe_int (fun _ _ => rfl)) pe_int (fun _ _ => rfl)) (pe_one (pe_ix ix_tup (pe_ix ix_list (pv 7) pe_int (fun _ _ => rfl)) pe_int (fun _ _ => rfl))))
        (pa_cons (pe_and (pe_ix ix_tup (pe_ix ix_list (pv 7) pe_int (fun _ _ => rfl)) pe_int (fun _ _ => rfl)) (pe_one (pe_ix ix_tup (pe_ix ix_list (pv 7) pe_int (fun _ _ => rfl)) pe_int (fun _ _ => rfl)))) pa_nil))) (nomark _))))))))))), ?_⟩
    refine ⟨_, rfl, p, ns, rfl, hp, hns, fun H1 qs pl s1 nqs npl st1 => ?_⟩
    refine ⟨_, rfl, Nat.le_of_ble_eq_true rfl, fun t1 nt1 => ⟨qs, pl, t1, 6, rfl, st1.same (same_upd nt1), by decide, upd_same, (st1.apart nt1).1, fun H2 pn zs b2 st2 npn hpn hzl hzn => ?_⟩⟩
    have z2 : SB qs H1 H2 := (SB.of (same_upd nt1)).trans b2
    refine ⟨_, rfl, _, rfl, qs, pl, 2, rfl, st2, by decide, by decide, fun H3 d1 b3 st3 hd1 => ?_⟩
    refine ⟨_, _, rfl, rfl, Nat.le_of_ble_eq_true rfl, fun t2 nt2 => ⟨qs, pl, t2, 1 + d1, by rw [Int.natCast_add]; rfl, st3.same (same_upd nt2), by omega, upd_same, (st3.apart nt2).1, fun H4 pb ls b4 st4 npb hpb hll hln => ?_⟩⟩
    have z4 : SB qs H2 H4 := (b3.trans (SB.of (same_upd nt2))).trans b4
    have npq := ((st1.same (same_upd nt1)).apart npn).1
    have hpn4 := z4 _ _ npq hpn
    have st3' := st3.same (same_upd (o := .lst []) nt2)
    have nbq := (st3'.apart npb).1
    refine ⟨_, rfl, _, rfl, _, rfl, qs, pl, 2, rfl, st4, by decide, by decide, fun H5 d2 b5 st5 hd2 => ?_⟩
    have hpn5 := b5 _ _ npq hpn4
    refine ⟨_, _, rfl, rfl, _, rfl, pn, _, rfl, SqL.of hpn5, fun p1 np1 => ?_⟩
    have sA := same_upd (o := .lst (cutV (zs.map V.str) none (some (2 + (d2 : Int))))) np1
    have n1q := (st5.apart np1).1
    refine ⟨_, rfl, _, rfl, qs, pl, 4, rfl, st5.same sA, by decide, by decide, fun H6 m1 b6 st6 hm1 => ?_⟩
    have hp1 : H6 p1 = some (.lst ((zs.take (2 + d2)).map V.str)) := by
      rw [← cut_lo hzl hd2]
      exact b6 _ _ n1q upd_same
    have z56 : SB qs H5 H6 := (SB.of sA).trans b6
    have z46 := b5.trans z56
    have hpb6 := z46 _ _ nbq hpb
    refine ⟨_, _, rfl, rfl, qs, pl, p1, pb, zs.take (2 + d2), ls, 1 + m1, by rw [Int.natCast_add]; rfl, st6, hp1, by rw [List.length_take]; omega, by rw [List.length_take]; omega, n1q, hpb6, by omega, by omega, nbq, by omega, by omega, fun H7 qa TA b7 st7 nqa hTA okA => ?_⟩
    have z47 := z46.trans b7
    have hpn7 := z47 _ _ npq hpn4
    have hpb7 := z47 _ _ nbq hpb
    refine ⟨_, rfl, _, rfl, _, rfl, _, rfl, qs, pl, 2, rfl, st7, by decide, by decide, fun H8 d3 b8 st8 hd3 => ?_⟩
    have hpn8 := b8 _ _ npq hpn7
    refine ⟨_, _, rfl, rfl, _, rfl, pn, _, rfl, SqL.of hpn8, fun p2 np2 => ?_⟩
    have sB := same_upd (o := .lst (cutV (zs.map V.str) (some 3) (some (5 + (d3 : Int))))) np2
    have n2q := (st8.apart np2).1
    refine ⟨_, rfl, _, rfl, qs, pl, 4, rfl, st8.same sB, by decide, by decide, fun H9 m2 b9 st9 hm2 => ?_⟩
    have hp2 : H9 p2 = some (.lst (((zs.drop 3).take (2 + d3)).map V.str)) := by
      rw [← cut_hi hzl hd3]
      exact b9 _ _ n2q upd_same
    have z79 := b8.trans ((SB.of sB).trans b9)
    have hpb9 := z79 _ _ nbq hpb7
    have ld : (zs.drop 3).length = 3 := by rw [List.length_drop]; omega
    refine ⟨_, _, rfl, rfl, qs, pl, p2, pb, (zs.drop 3).take (2 + d3), ls, 1 + m2, by rw [Int.natCast_add]; rfl, st9, hp2, by rw [List.length_take]; omega, by rw [List.length_take]; omega, n2q, hpb9, by omega, by omega, nbq, by omega, by omega, fun HA qb TB bA stA nqb hTB okB => ?_⟩
    have disj : Disj TA TB := fun p h1 h2 => cut_apart hzn hd2 (okA.ps p h1) (okB.ps p h2)
    have z7A := z79.trans bA
    have hTA2 : RTbl HA (.ref qa) TA := RTbl.tm _ _ _ _ (z7A.ts st7) hTA
    have gA : Good TA := ⟨okA.ok, by rw [okA.len]; omega, fun r hr => Nat.le_trans (okA.rowlen r hr) (by omega), fun p _ => few_small okA.ok (by rw [okA.len]; omega) p, _, by rw [List.length_take]; omega, okA.ps⟩
    have gB' : Good TB := ⟨okB.ok, by rw [okB.len]; omega, fun r hr => Nat.le_trans (okB.rowlen r hr) (by omega), fun p _ => few_small okB.ok (by rw [okB.len]; omega) p, _, by rw [List.length_take]; omega, okB.ps⟩
    have lA : TA.rows.length ≤ 4 := by rw [okA.len]; omega
    have lB : TB.rows.length ≤ 4 := by rw [okB.len]; omega
    have lAB : TA.rows.length * TB.rows.length ≤ 16 := Nat.mul_le_mul lA lB
    refine ⟨_, rfl, _, rfl, _, _, TA, TB, rfl, hTA2, hTB, okA.ok, okB.ok, disj.apart, by omega, by omega, by omega, okA.rowlen, okB.rowlen, fun HB qt T sAB nqt hT okT lT rT ⟨R, hR⟩ => ?_⟩
    have gT' : Good T := by
      refine ⟨okT, by omega, rT, fun p hp => ?_, zs.take (2 + d2) ++ (zs.drop 3).take (2 + d3), by rw [List.length_append, List.length_take, List.length_take]; omega, fun p hp => ?_⟩
      · rcases hR.occ okT hp with o | o
        · exact hR.few okA.ok disj lA o
        · exact hR.sym.few okB.ok disj.sym lB o
      · rcases hR.occ okT hp with o | o
        · exact List.mem_append_left _ (okA.ps p o)
        · exact List.mem_append_right _ (okB.ps p o)
    have hacc := hR.acc okT disj okA.fin okB.fin
    have hrdy := hR.ready okT disj
    have hTA3 := RTbl.mono _ _ _ _ sAB hTA2
    have hTB3 := RTbl.mono _ _ _ _ sAB hTB
    refine ⟨_, rfl, ?_⟩
    dsimp only [tNil, List.append]
    refine lto_of hTA3 gA fun v1 HC o1 sC r1 t1 => ⟨_, rfl, ?_⟩
    dsimp only [tNil, List.append]
    refine lto_of (RTbl.mono _ _ _ _ sC hTB3) gB' fun v2 HD o2 sD r2 t2 => ⟨_, rfl, ?_⟩
    dsimp only [tNil, List.append]
    refine lto_of (RTbl.mono _ _ _ _ (sC.trans sD) hT) gT' fun v3 HE o3 sE r3 t3 => ?_
    refine ⟨Nat.le_of_ble_eq_true rfl, fun dl ndl => ?_⟩
    have sL := same_upd (o := .lst [v1, v2, v3]) ndl
    have sBE := (sC.trans sD).trans sE
    obtain ⟨HF, eHF⟩ : ∃ HF, HF = L2.upd HE dl (.lst [v1, v2, v3]) := ⟨_, rfl⟩
    have hdl : HF dl = some (.lst [v1, v2, v3]) := by rw [eHF, upd_same]
    rw [← eHF] at sL ⊢
    have r1 : RO HF v1 o1 := r1.same ((sD.trans sE).trans sL)
    have r2 : RO HF v2 o2 := r2.same (sE.trans sL)
    have r3 : RO HF v3 o3 := r3.same sL
    have dl3 : Dp K HF (.ref dl) (.list [dat o1, dat o2, dat o3]) := .lst (SqL.of hdl) (.cons r1.dp (.cons r2.dp (.cons r3.dp .nil)))
    have sBF := sBE.trans sL
    refine ⟨_, rfl, .none, [dat o1, dat o2, dat o3], .non, dl3, by decide, dat3_shaped _ _ _, _, rfl, ite2 (fun e => ?_) (fun e => ?_)⟩
    · have e : ([dat o1, dat o2, dat o3].any fun z => PyData.eqv z .none) = true := e
      simp only [List.any_cons, List.any_nil, dat_none, Bool.or_false] at e
      obtain ⟨j, x, T', hx, z, hz, hz1, hz2, hT', hg', hm'⟩ : ∃ (j : Nat) (x : V) (T' : Tbl), [V.ref qa, V.ref qb, V.ref qt][j]? = some x ∧ ∃ z, [dat o1, dat o2, dat o3][j]? = some z ∧ PyData.eqv z .none = true ∧
          (∀ (m : Nat) (z' : PyData), m < j → [dat o1, dat o2, dat o3][m]? = some z' → PyData.eqv z' .none = false) ∧ RTbl HF x T' ∧ Good T' ∧ Many T' := by
        cases o1 with
        | none => exact ⟨0, _, TA, rfl, _, rfl, dat_none _, fun m z' hm => absurd hm (Nat.not_lt_zero m), RTbl.mono _ _ _ _ sBF hTA3, gA, t1⟩
        | some b1 =>
          cases o2 with
          | none =>
            refine ⟨1, _, TB, rfl, _, rfl, dat_none _, fun m z' hm h => ?_, RTbl.mono _ _ _ _ sBF hTB3, gB', t2⟩
            have : m = 0 := by omega
            subst this
            cases h
            exact dat_none (some b1)
          | some b2 =>
            cases o3 with
            | none =>
              refine ⟨2, _, T, rfl, _, rfl, dat_none _, fun m z' hm h => ?_, RTbl.mono _ _ _ _ sBF hT, gT', t3⟩
              rcases (by omega : m = 0 ∨ m = 1) with rfl | rfl
              · cases h
                exact dat_none (some b1)
              · cases h
                exact dat_none (some b2)
            | some b3 => cases e
      refine ⟨_, rfl, _, rfl, _, rfl, Nat.le_of_ble_eq_true rfl, fun d4 nd4 => ?_⟩
      have s4 := same_upd (o := .lst [V.ref qa, V.ref qb, V.ref qt]) nd4
      have dl4 : Dp K (L2.upd HF d4 (.lst [V.ref qa, V.ref qb, V.ref qt])) (.ref dl) (.list [dat o1, dat o2, dat o3]) := .lst (SqL.of (s4 _ _ hdl)) (.cons (r1.same s4).dp (.cons (r2.same s4).dp (.cons (r3.same s4).dp .nil)))
      refine ⟨.ref dl, rfl, .inl ⟨rfl, _, .inl (.inl (s4 _ _ hdl))⟩, dl, .non, .none, [dat o1, dat o2, dat o3], j, z, rfl, rfl, dl4, .non, dat3_shaped _ _ _, by decide, hz, hz1, hz2, ?_⟩
      refine ⟨d4, _, _, x, rfl, rfl, SqL.of upd_same, atI_nat hx, x, T', rfl, RTbl.mono _ _ _ _ s4 hT', hg', fun H' _ => q H', fun h => absurd hm' h⟩
    · have e : ¬ ([dat o1, dat o2, dat o3].any fun z => PyData.eqv z .none) = true := e
      simp only [List.any_cons, List.any_nil, dat_none, Bool.or_false] at e
      cases o1 with
      | none => exact absurd rfl e
      | some b1 =>
        cases o2 with
        | none => exact absurd rfl e
        | some b2 =>
          cases o3 with
          | none => exact absurd rfl e
          | some b3 =>
            obtain ⟨q1, e1, h1⟩ := r1
            obtain ⟨q2, e2, h2⟩ := r2
            obtain ⟨q3, e3, h3⟩ := r3
            subst e1 e2 e3
            have fin : ∀ (c1 c2 : Bool), (c1 = true ↔ b1.1 = true ∧ b2.1 = true) → (c2 = true ↔ b1.2 = true ∧ b2.2 = true) → ∀ p, HF p = none → rEqD K (.ref q3) (.ref p) (L2.upd HF p (.tup [.bl c1, .bl c2])) Q := by
              intro c1 c2 i1 i2 p np
              have w1 : c1 = b3.1 := Bool.eq_iff_iff.mpr (i1.trans ((and_congr t1.1 t2.1).trans (hacc.symm.trans t3.1.symm)))
              have w2 : c2 = b3.2 := Bool.eq_iff_iff.mpr (i2.trans ((and_congr t1.2 t2.2).trans (hrdy.symm.trans t3.2.symm)))
              have sP := same_upd (o := .tup [.bl c1, .bl c2]) np
              refine ⟨dat (some b3), dat (some (c1, c2)), .tup (SqT.of (sP _ _ h3)) (.cons (.bl _) (.cons (.bl _) .nil)), .tup (SqT.of upd_same) (.cons (.bl _) (.cons (.bl _) .nil)), dat_shaped _, dat_shaped _, ?_⟩
              rw [w1, w2, dat_eq b3]
              exact q _
            refine ⟨_, rfl, dl, _, _, .ref q3, rfl, rfl, SqL.of hdl, atI_nat (j := 2) rfl, ?_⟩
            refine ⟨_, rfl, dl, _, _, .ref q1, rfl, rfl, SqL.of hdl, atI_nat (j := 0) rfl, q1, _, _, .bl b1.1, rfl, rfl, SqT.of h1, atI_nat (j := 0) rfl, _, rfl, ite2 (fun e1 => ?_) (fun e1 => ?_)⟩
            · refine ⟨_, rfl, dl, _, _, .ref q2, rfl, rfl, SqL.of hdl, atI_nat (j := 1) rfl, q2, _, _, .bl b2.1, rfl, rfl, SqT.of h2, atI_nat (j := 0) rfl, ?_⟩
              refine ⟨_, rfl, dl, _, _, .ref q1, rfl, rfl, SqL.of hdl, atI_nat (j := 0) rfl, q1, _, _, .bl b1.2, rfl, rfl, SqT.of h1, atI_nat (j := 1) rfl, _, rfl, ite2 (fun e2 => ?_) (fun e2 => ?_)⟩
              · refine ⟨_, rfl, dl, _, _, .ref q2, rfl, rfl, SqL.of hdl, atI_nat (j := 1) rfl, q2, _, _, .bl b2.2, rfl, rfl, SqT.of h2, atI_nat (j := 1) rfl, Nat.le_of_ble_eq_true rfl, ?_⟩
                exact fin _ _ ⟨fun h => ⟨e1, h⟩, fun h => h.2⟩ ⟨fun h => ⟨e2, h⟩, fun h => h.2⟩
              · refine ⟨Nat.le_of_ble_eq_true rfl, ?_⟩
                exact fin _ _ ⟨fun h => ⟨e1, h⟩, fun h => h.2⟩ ⟨(fun h => by cases h), fun h => absurd h.1 e2⟩
            · refine ⟨_, rfl, dl, _, _, .ref q1, rfl, rfl, SqL.of hdl, atI_nat (j := 0) rfl, q1, _, _, .bl b1.2, rfl, rfl, SqT.of h1, atI_nat (j := 1) rfl, _, rfl, ite2 (fun e2 => ?_) (fun e2 => ?_)⟩
              · refine ⟨_, rfl, dl, _, _, .ref q2, rfl, rfl, SqL.of hdl, atI_nat (j := 1) rfl, q2, _, _, .bl b2.2, rfl, rfl, SqT.of h2, atI_nat (j := 1) rfl, Nat.le_of_ble_eq_true rfl, ?_⟩
                exact fin _ _ ⟨(fun h => by cases h), fun h => absurd h.1 e1⟩ ⟨fun h => ⟨e2, h⟩, fun h => h.2⟩
              · refine ⟨Nat.le_of_ble_eq_true rfl, ?_⟩
                exact fin _ _ ⟨(fun h => by cases h), fun h => absurd h.1 e1⟩ ⟨(fun h => by cases h), fun h => absurd h.1 e2⟩
end
end PL
namespace PL
open PySem PySem.Spec PyProof.Rows L2
/-- a class of errors names its own -/
theorem exm_own {K : PySem.W.Frag} {C : Addr} (b : PySem.W.subIn K (.ref C) (.type "BaseException") = some true) (i : PySem.W.isClsIn K C = true) (t : PySem.W.typeIn K (.ref C) = some (.type "type")) (s : PySem.W.subIn K (.ref C) (.ref C) = some true) : PySem.W.exmOne K (.ref C) (.ref C) = some true := by
  have i' : (PySem.W.clsIn K C).isSome = true := i
  unfold PySem.W.exmOne PySem.W.kitCls
  simp [b, i', t, s]
theorem ends {P : Program} {w : World} {K : PySem.W.Frag} {h : Heap} {mg : Str → Option Value} {fa C f1 f2 f3 f4 f5 f6 f7 f8 f9 f10 f11 f12 f13 f14 f15 f16 f17 f18 f19 f20 f21 f22 f23 f24 f25 f26 f27 f28 f29 f30 f31 f32 f33 f34 f35 f36 f37 f38 : Addr} (X : K.In h) (G : h.Ns mainGlobals mg) (hfa : mg "law" = some (.ref fa))
    {od1 an1 od2 an2 od3 an3 od4 an4 od5 an5 od6 an6 od7 an7 od8 an8 od9 an9 od10 an10 od11 an11 od12 an12 od13 an13 od14 an14 od15 an15 od16 an16 od17 an17 od18 an18 od19 an19 od20 an20 od21 an21 od22 an22 od23 an23 od24 an24 od25 an25 od26 an26 od27 an27 od28 an28 od29 an29 od30 an30 od31 an31 od32 an32 od33 an33 od34 an34 od35 an35 od36 an36 od37 an37 od38 an38 : Option Addr} {sl1 sl2 sl3 sl4 sl5 sl6 sl7 sl8 sl9 sl10 sl11 sl12 sl13 sl14 sl15 sl16 sl17 sl18 sl19 sl20 sl21 sl22 sl23 sl24 sl25 sl26 sl27 sl28 sl29 sl30 sl31 sl32 sl33 sl34 sl35 sl36 sl37 sl38 : Array (Option Value)} {oc1 kV1 dc1 pm1 cd1 ct1 oc2 kV2 dc2 pm2 cd2 ct2 oc3 kV3 dc3 pm3 cd3 ct3 oc4 kV4 dc4 pm4 cd4 ct4 oc5 kV5 dc5 pm5 cd5 ct5 oc6 kV6 dc6 pm6 cd6 ct6 oc7 kV7 dc7 pm7 cd7 ct7 oc8 kV8 dc8 pm8 cd8 ct8 oc9 kV9 dc9 pm9 cd9 ct9 oc10 kV10 dc10 pm10 cd10 ct10 oc11 kV11 dc11 pm11 cd11 ct11 oc12 kV12 dc12 pm12 cd12 ct12 oc13 kV13 dc13 pm13 cd13 ct13 oc14 kV14 dc14 pm14 cd14 ct14 oc15 kV15 dc15 pm15 cd15 ct15 oc16 kV16 dc16 pm16 cd16 ct16 oc17 kV17 dc17 pm17 cd17 ct17 oc18 kV18 dc18 pm18 cd18 ct18 oc19 kV19 dc19 pm19 cd19 ct19 oc20 kV20 dc20 pm20 cd20 ct20 oc21 kV21 dc21 pm21 cd21 ct21 oc22 kV22 dc22 pm22 cd22 ct22 oc23 kV23 dc23 pm23 cd23 ct23 oc24 kV24 dc24 pm24 cd24 ct24 oc25 kV25 dc25 pm25 cd25 ct25 oc26 kV26 dc26 pm26 cd26 ct26 oc27 kV27 dc27 pm27 cd27 ct27 oc28 kV28 dc28 pm28 cd28 ct28 oc29 kV29 dc29 pm29 cd29 ct29 oc30 kV30 dc30 pm30 cd30 ct30 oc31 kV31 dc31 pm31 cd31 ct31 oc32 kV32 dc32 pm32 cd32 ct32 oc33 kV33 dc33 pm33 cd33 ct33 oc34 kV34 dc34 pm34 cd34 ct34 oc35 kV35 dc35 pm35 cd35 ct35 oc36 kV36 dc36 pm36 cd36 ct36 oc37 kV37 dc37 pm37 cd37 ct37 oc38 kV38 dc38 pm38 cd38 ct38 : Value} {tS tJ : Tok}
    (a1 : PySem.W.nsIn K mainGlobals "next_state" = some (some (.ref f1))) (l1 : K.lookup f1 = some ⟨oc1, od1, .func (PySem.W.fnOf "next_state" "next_state" (defArgs sNext) (defBody sNext) (defScope sNext) .none kV1 dc1 pm1 an1 cd1 ct1), sl1⟩) (c1 : PySem.W.codeIn K cd1 "next_state" = true) (k1 : PySem.W.keepIn K (.ref f1) = true)
    (a2 : PySem.W.nsIn K mainGlobals "concerns" = some (some (.ref f2))) (l2 : K.lookup f2 = some ⟨oc2, od2, .func (PySem.W.fnOf "concerns" "concerns" (defArgs sConc) (defBody sConc) (defScope sConc) .none kV2 dc2 pm2 an2 cd2 ct2), sl2⟩) (c2 : PySem.W.codeIn K cd2 "concerns" = true) (k2 : PySem.W.keepIn K (.ref f2) = true)
    (a3 : PySem.W.nsIn K mainGlobals "view" = some (some (.ref f3))) (l3 : K.lookup f3 = some ⟨oc3, od3, .func (PySem.W.fnOf "view" "view" (defArgs sView) (defBody sView) (defScope sView) .none kV3 dc3 pm3 an3 cd3 ct3), sl3⟩) (c3 : PySem.W.codeIn K cd3 "view" = true) (k3 : PySem.W.keepIn K (.ref f3) = true)
    (a4 : PySem.W.nsIn K mainGlobals "walk" = some (some (.ref f4))) (l4 : K.lookup f4 = some ⟨oc4, od4, .func (PySem.W.fnOf "walk" "walk" (defArgs sWalk) (defBody sWalk) (defScope sWalk) .none kV4 dc4 pm4 an4 cd4 ct4), sl4⟩) (c4 : PySem.W.codeIn K cd4 "walk" = true) (k4 : PySem.W.keepIn K (.ref f4) = true)
    (a5 : PySem.W.nsIn K mainGlobals "reached_unseen" = some (some (.ref f5))) (l5 : K.lookup f5 = some ⟨oc5, od5, .func (PySem.W.fnOf "reached_unseen" "reached_unseen" (defArgs sUnseen) (defBody sUnseen) (defScope sUnseen) .none kV5 dc5 pm5 an5 cd5 ct5), sl5⟩) (c5 : PySem.W.codeIn K cd5 "reached_unseen" = true) (k5 : PySem.W.keepIn K (.ref f5) = true)
    (a6 : PySem.W.nsIn K mainGlobals "subset_table" = some (some (.ref f6))) (l6 : K.lookup f6 = some ⟨oc6, od6, .func (PySem.W.fnOf "subset_table" "subset_table" (defArgs sSub) (defBody sSub) (defScope sSub) .none kV6 dc6 pm6 an6 cd6 ct6), sl6⟩) (c6 : PySem.W.codeIn K cd6 "subset_table" = true) (k6 : PySem.W.keepIn K (.ref f6) = true)
    (a7 : PySem.W.nsIn K mainGlobals "grouped" = some (some (.ref f7))) (l7 : K.lookup f7 = some ⟨oc7, od7, .func (PySem.W.fnOf "grouped" "grouped" (defArgs sGroup) (defBody sGroup) (defScope sGroup) .none kV7 dc7 pm7 an7 cd7 ct7), sl7⟩) (c7 : PySem.W.codeIn K cd7 "grouped" = true) (k7 : PySem.W.keepIn K (.ref f7) = true)
    (a8 : PySem.W.nsIn K mainGlobals "alike_classes" = some (some (.ref f8))) (l8 : K.lookup f8 = some ⟨oc8, od8, .func (PySem.W.fnOf "alike_classes" "alike_classes" (defArgs sAlike) (defBody sAlike) (defScope sAlike) .none kV8 dc8 pm8 an8 cd8 ct8), sl8⟩) (c8 : PySem.W.codeIn K cd8 "alike_classes" = true) (k8 : PySem.W.keepIn K (.ref f8) = true)
    (a9 : PySem.W.nsIn K mainGlobals "refined_classes" = some (some (.ref f9))) (l9 : K.lookup f9 = some ⟨oc9, od9, .func (PySem.W.fnOf "refined_classes" "refined_classes" (defArgs sRef) (defBody sRef) (defScope sRef) .none kV9 dc9 pm9 an9 cd9 ct9), sl9⟩) (c9 : PySem.W.codeIn K cd9 "refined_classes" = true) (k9 : PySem.W.keepIn K (.ref f9) = true)
    (a10 : PySem.W.nsIn K mainGlobals "least" = some (some (.ref f10))) (l10 : K.lookup f10 = some ⟨oc10, od10, .func (PySem.W.fnOf "least" "least" (defArgs sLeast) (defBody sLeast) (defScope sLeast) .none kV10 dc10 pm10 an10 cd10 ct10), sl10⟩) (c10 : PySem.W.codeIn K cd10 "least" = true) (k10 : PySem.W.keepIn K (.ref f10) = true)
    (a11 : PySem.W.nsIn K mainGlobals "erased" = some (some (.ref f11))) (l11 : K.lookup f11 = some ⟨oc11, od11, .func (PySem.W.fnOf "erased" "erased" (defArgs sEra) (defBody sEra) (defScope sEra) .none kV11 dc11 pm11 an11 cd11 ct11), sl11⟩) (c11 : PySem.W.codeIn K cd11 "erased" = true) (k11 : PySem.W.keepIn K (.ref f11) = true)
    (a12 : PySem.W.nsIn K mainGlobals "parties_of" = some (some (.ref f12))) (l12 : K.lookup f12 = some ⟨oc12, od12, .func (PySem.W.fnOf "parties_of" "parties_of" (defArgs sPof) (defBody sPof) (defScope sPof) .none kV12 dc12 pm12 an12 cd12 ct12), sl12⟩) (c12 : PySem.W.codeIn K cd12 "parties_of" = true) (k12 : PySem.W.keepIn K (.ref f12) = true)
    (a13 : PySem.W.nsIn K mainGlobals "machine_of" = some (some (.ref f13))) (l13 : K.lookup f13 = some ⟨oc13, od13, .func (PySem.W.fnOf "machine_of" "machine_of" (defArgs sMof) (defBody sMof) (defScope sMof) .none kV13 dc13 pm13 an13 cd13 ct13), sl13⟩) (c13 : PySem.W.codeIn K cd13 "machine_of" = true) (k13 : PySem.W.keepIn K (.ref f13) = true)
    (a14 : PySem.W.nsIn K mainGlobals "machines_of" = some (some (.ref f14))) (l14 : K.lookup f14 = some ⟨oc14, od14, .func (PySem.W.fnOf "machines_of" "machines_of" (defArgs sMsof) (defBody sMsof) (defScope sMsof) .none kV14 dc14 pm14 an14 cd14 ct14), sl14⟩) (c14 : PySem.W.codeIn K cd14 "machines_of" = true) (k14 : PySem.W.keepIn K (.ref f14) = true)
    (a15 : PySem.W.nsIn K mainGlobals "next_joint" = some (some (.ref f15))) (l15 : K.lookup f15 = some ⟨oc15, od15, .func (PySem.W.fnOf "next_joint" "next_joint" (defArgs sNj) (defBody sNj) (defScope sNj) .none kV15 dc15 pm15 an15 cd15 ct15), sl15⟩) (c15 : PySem.W.codeIn K cd15 "next_joint" = true) (k15 : PySem.W.keepIn K (.ref f15) = true)
    (a16 : PySem.W.nsIn K mainGlobals "joint_states" = some (some (.ref f16))) (l16 : K.lookup f16 = some ⟨oc16, od16, .func (PySem.W.fnOf "joint_states" "joint_states" (defArgs sJs) (defBody sJs) (defScope sJs) .none kV16 dc16 pm16 an16 cd16 ct16), sl16⟩) (c16 : PySem.W.codeIn K cd16 "joint_states" = true) (k16 : PySem.W.keepIn K (.ref f16) = true)
    (a17 : PySem.W.nsIn K mainGlobals "seen_alike" = some (some (.ref f17))) (l17 : K.lookup f17 = some ⟨oc17, od17, .func (PySem.W.fnOf "seen_alike" "seen_alike" (defArgs sSeen) (defBody sSeen) (defScope sSeen) .none kV17 dc17 pm17 an17 cd17 ct17), sl17⟩) (c17 : PySem.W.codeIn K cd17 "seen_alike" = true) (k17 : PySem.W.keepIn K (.ref f17) = true)
    (a18 : PySem.W.nsIn K mainGlobals "states_by_party" = some (some (.ref f18))) (l18 : K.lookup f18 = some ⟨oc18, od18, .func (PySem.W.fnOf "states_by_party" "states_by_party" (defArgs sSbp) (defBody sSbp) (defScope sSbp) .none kV18 dc18 pm18 an18 cd18 ct18), sl18⟩) (c18 : PySem.W.codeIn K cd18 "states_by_party" = true) (k18 : PySem.W.keepIn K (.ref f18) = true)
    (a19 : PySem.W.nsIn K mainGlobals "sends_at" = some (some (.ref f19))) (l19 : K.lookup f19 = some ⟨oc19, od19, .func (PySem.W.fnOf "sends_at" "sends_at" (defArgs sSends) (defBody sSends) (defScope sSends) .none kV19 dc19 pm19 an19 cd19 ct19), sl19⟩) (c19 : PySem.W.codeIn K cd19 "sends_at" = true) (k19 : PySem.W.keepIn K (.ref f19) = true)
    (a20 : PySem.W.nsIn K mainGlobals "stray_at" = some (some (.ref f20))) (l20 : K.lookup f20 = some ⟨oc20, od20, .func (PySem.W.fnOf "stray_at" "stray_at" (defArgs sStray) (defBody sStray) (defScope sStray) .none kV20 dc20 pm20 an20 cd20 ct20), sl20⟩) (c20 : PySem.W.codeIn K cd20 "stray_at" = true) (k20 : PySem.W.keepIn K (.ref f20) = true)
    (a21 : PySem.W.nsIn K mainGlobals "idle_at" = some (some (.ref f21))) (l21 : K.lookup f21 = some ⟨oc21, od21, .func (PySem.W.fnOf "idle_at" "idle_at" (defArgs sIdle) (defBody sIdle) (defScope sIdle) .none kV21 dc21 pm21 an21 cd21 ct21), sl21⟩) (c21 : PySem.W.codeIn K cd21 "idle_at" = true) (k21 : PySem.W.keepIn K (.ref f21) = true)
    (a22 : PySem.W.nsIn K mainGlobals "check" = some (some (.ref f22))) (l22 : K.lookup f22 = some ⟨oc22, od22, .func (PySem.W.fnOf "check" "check" (defArgs sChk) (defBody sChk) (defScope sChk) .none kV22 dc22 pm22 an22 cd22 ct22), sl22⟩) (c22 : PySem.W.codeIn K cd22 "check" = true) (k22 : PySem.W.keepIn K (.ref f22) = true)
    (a23 : PySem.W.nsIn K mainGlobals "unready" = some (some (.ref f23))) (l23 : K.lookup f23 = some ⟨oc23, od23, .func (PySem.W.fnOf "unready" "unready" (defArgs sUnr) (defBody sUnr) (defScope sUnr) .none kV23 dc23 pm23 an23 cd23 ct23), sl23⟩) (c23 : PySem.W.codeIn K cd23 "unready" = true) (k23 : PySem.W.keepIn K (.ref f23) = true)
    (a24 : PySem.W.nsIn K mainGlobals "beside" = some (some (.ref f24))) (l24 : K.lookup f24 = some ⟨oc24, od24, .func (PySem.W.fnOf "beside" "beside" (defArgs sBes) (defBody sBes) (defScope sBes) .none kV24 dc24 pm24 an24 cd24 ct24), sl24⟩) (c24 : PySem.W.codeIn K cd24 "beside" = true) (k24 : PySem.W.keepIn K (.ref f24) = true)
    (a25 : PySem.W.nsIn K mainGlobals "_law_state" = some (some (.ref f25))) (l25 : K.lookup f25 = some ⟨oc25, od25, .func (PySem.W.fnOf "_law_state" "_law_state" (defArgs sLst) (defBody sLst) (defScope sLst) .none kV25 dc25 pm25 an25 cd25 ct25), sl25⟩) (c25 : PySem.W.codeIn K cd25 "_law_state" = true) (k25 : PySem.W.keepIn K (.ref f25) = true)
    (a26 : PySem.W.nsIn K mainGlobals "_law_draw" = some (some (.ref f26))) (l26 : K.lookup f26 = some ⟨oc26, od26, .func (PySem.W.fnOf "_law_draw" "_law_draw" (defArgs sDraw) (defBody sDraw) (defScope sDraw) .none kV26 dc26 pm26 an26 cd26 ct26), sl26⟩) (c26 : PySem.W.codeIn K cd26 "_law_draw" = true) (k26 : PySem.W.keepIn K (.ref f26) = true)
    (a27 : PySem.W.nsIn K mainGlobals "_law_name" = some (some (.ref f27))) (l27 : K.lookup f27 = some ⟨oc27, od27, .func (PySem.W.fnOf "_law_name" "_law_name" (defArgs sNam) (defBody sNam) (defScope sNam) .none kV27 dc27 pm27 an27 cd27 ct27), sl27⟩) (c27 : PySem.W.codeIn K cd27 "_law_name" = true) (k27 : PySem.W.keepIn K (.ref f27) = true)
    (a28 : PySem.W.nsIn K mainGlobals "_law_names" = some (some (.ref f28))) (l28 : K.lookup f28 = some ⟨oc28, od28, .func (PySem.W.fnOf "_law_names" "_law_names" (defArgs sNms) (defBody sNms) (defScope sNms) .none kV28 dc28 pm28 an28 cd28 ct28), sl28⟩) (c28 : PySem.W.codeIn K cd28 "_law_names" = true) (k28 : PySem.W.keepIn K (.ref f28) = true)
    (a29 : PySem.W.nsIn K mainGlobals "_law_edge" = some (some (.ref f29))) (l29 : K.lookup f29 = some ⟨oc29, od29, .func (PySem.W.fnOf "_law_edge" "_law_edge" (defArgs sEdge) (defBody sEdge) (defScope sEdge) .none kV29 dc29 pm29 an29 cd29 ct29), sl29⟩) (c29 : PySem.W.codeIn K cd29 "_law_edge" = true) (k29 : PySem.W.keepIn K (.ref f29) = true)
    (a30 : PySem.W.nsIn K mainGlobals "_law_table" = some (some (.ref f30))) (l30 : K.lookup f30 = some ⟨oc30, od30, .func (PySem.W.fnOf "_law_table" "_law_table" (defArgs sTab) (defBody sTab) (defScope sTab) .none kV30 dc30 pm30 an30 cd30 ct30), sl30⟩) (c30 : PySem.W.codeIn K cd30 "_law_table" = true) (k30 : PySem.W.keepIn K (.ref f30) = true)
    (a31 : PySem.W.nsIn K mainGlobals "_law_step" = some (some (.ref f31))) (l31 : K.lookup f31 = some ⟨oc31, od31, .func (PySem.W.fnOf "_law_step" "_law_step" (defArgs sStp) (defBody sStp) (defScope sStp) .none kV31 dc31 pm31 an31 cd31 ct31), sl31⟩) (c31 : PySem.W.codeIn K cd31 "_law_step" = true) (k31 : PySem.W.keepIn K (.ref f31) = true)
    (a32 : PySem.W.nsIn K mainGlobals "_law_unseen" = some (some (.ref f32))) (l32 : K.lookup f32 = some ⟨oc32, od32, .func (PySem.W.fnOf "_law_unseen" "_law_unseen" (defArgs sLun) (defBody sLun) (defScope sLun) .none kV32 dc32 pm32 an32 cd32 ct32), sl32⟩) (c32 : PySem.W.codeIn K cd32 "_law_unseen" = true) (k32 : PySem.W.keepIn K (.ref f32) = true)
    (a33 : PySem.W.nsIn K mainGlobals "_law_seen" = some (some (.ref f33))) (l33 : K.lookup f33 = some ⟨oc33, od33, .func (PySem.W.fnOf "_law_seen" "_law_seen" (defArgs sLse) (defBody sLse) (defScope sLse) .none kV33 dc33 pm33 an33 cd33 ct33), sl33⟩) (c33 : PySem.W.codeIn K cd33 "_law_seen" = true) (k33 : PySem.W.keepIn K (.ref f33) = true)
    (a34 : PySem.W.nsIn K mainGlobals "_law_parties" = some (some (.ref f34))) (l34 : K.lookup f34 = some ⟨oc34, od34, .func (PySem.W.fnOf "_law_parties" "_law_parties" (defArgs sLpa) (defBody sLpa) (defScope sLpa) .none kV34 dc34 pm34 an34 cd34 ct34), sl34⟩) (c34 : PySem.W.codeIn K cd34 "_law_parties" = true) (k34 : PySem.W.keepIn K (.ref f34) = true)
    (a35 : PySem.W.nsIn K mainGlobals "_law_sights" = some (some (.ref f35))) (l35 : K.lookup f35 = some ⟨oc35, od35, .func (PySem.W.fnOf "_law_sights" "_law_sights" (defArgs sLsi) (defBody sLsi) (defScope sLsi) .none kV35 dc35 pm35 an35 cd35 ct35), sl35⟩) (c35 : PySem.W.codeIn K cd35 "_law_sights" = true) (k35 : PySem.W.keepIn K (.ref f35) = true)
    (a36 : PySem.W.nsIn K mainGlobals "_law_explored" = some (some (.ref f36))) (l36 : K.lookup f36 = some ⟨oc36, od36, .func (PySem.W.fnOf "_law_explored" "_law_explored" (defArgs sLex) (defBody sLex) (defScope sLex) .none kV36 dc36 pm36 an36 cd36 ct36), sl36⟩) (c36 : PySem.W.codeIn K cd36 "_law_explored" = true) (k36 : PySem.W.keepIn K (.ref f36) = true)
    (a37 : PySem.W.nsIn K mainGlobals "_law_told" = some (some (.ref f37))) (l37 : K.lookup f37 = some ⟨oc37, od37, .func (PySem.W.fnOf "_law_told" "_law_told" (defArgs sLto) (defBody sLto) (defScope sLto) .none kV37 dc37 pm37 an37 cd37 ct37), sl37⟩) (c37 : PySem.W.codeIn K cd37 "_law_told" = true) (k37 : PySem.W.keepIn K (.ref f37) = true)
    (a38 : PySem.W.nsIn K mainGlobals "law" = some (some (.ref f38))) (l38 : K.lookup f38 = some ⟨oc38, od38, .func (PySem.W.fnOf "law" "law" (defArgs sLaw) (defBody sLaw) (defScope sLaw) .none kV38 dc38 pm38 an38 cd38 ct38), sl38⟩) (c38 : PySem.W.codeIn K cd38 "law" = true) (k38 : PySem.W.keepIn K (.ref f38) = true)
    (z_enumerate : PySem.W.nsIn K mainGlobals "enumerate" = some none)
    (z_int : PySem.W.nsIn K mainGlobals "int" = some none)
    (z_len : PySem.W.nsIn K mainGlobals "len" = some none)
    (z_list : PySem.W.nsIn K mainGlobals "list" = some none)
    (z_range : PySem.W.nsIn K mainGlobals "range" = some none)
    (z_set : PySem.W.nsIn K mainGlobals "set" = some none)
    (z_sorted : PySem.W.nsIn K mainGlobals "sorted" = some none)
    (z_str : PySem.W.nsIn K mainGlobals "str" = some none)
    (z_tuple : PySem.W.nsIn K mainGlobals "tuple" = some none)
    (nSTATES : PySem.W.nsIn K mainGlobals "MOST_STATES" = some (some (.int 300 tS))) (nJOINT : PySem.W.nsIn K mainGlobals "MOST_JOINT" = some (some (.int 3000 tJ)))
    (aC : PySem.W.nsIn K mainGlobals "TooLarge" = some (some (.ref C))) (eC : PySem.W.excIn K C [.type "ValueError", .type "Exception", .type "BaseException", .type "object"] "ValueError.__new__" = true)
    (kC : PySem.W.keepIn K (.ref C) = true) (sC : PySem.W.subIn K (.ref C) (.type "BaseException") = some true) (tC : PySem.W.typeIn K (.ref C) = some (.type "type")) (iC : PySem.W.isClsIn K C = true) (ssC : PySem.W.subIn K (.ref C) (.ref C) = some true) :
    ∃ fd : FuncData, (∀ (s : Shared) (v : Value), BindsTo s fd ⟨[v], []⟩ [("_law_script", v)]) ∧ ∀ base : Heap, K.In base → base.Ns mainGlobals mg → FnOk P w K mg base CX0 10 fa fd ["_law_script"] (spLaw K) := by
  have e := hfa.symm.trans (PySem.W.mg_of X G a38)
  cases e
  have F1 := fun_mk (st := sNext) l1 c1 k1
  have b1 := F1.binds (ps := ["table", "state", "action"]) fun _ _ _ _ _ _ us hl => match us, hl with | [_, _, _], _ => rfl
  have F2 := fun_mk (st := sConc) l2 c2 k2
  have b2 := F2.binds (ps := ["action", "party"]) fun _ _ _ _ _ _ us hl => match us, hl with | [_, _], _ => rfl
  have F3 := fun_mk (st := sView) l3 c3 k3
  have b3 := F3.binds (ps := ["actions", "party"]) fun _ _ _ _ _ _ us hl => match us, hl with | [_, _], _ => rfl
  have F4 := fun_mk (st := sWalk) l4 c4 k4
  have b4 := F4.binds (ps := ["table", "actions"]) fun _ _ _ _ _ _ us hl => match us, hl with | [_, _], _ => rfl
  have F5 := fun_mk (st := sUnseen) l5 c5 k5
  have b5 := F5.binds (ps := ["table", "state", "party", "seen"]) fun _ _ _ _ _ _ us hl => match us, hl with | [_, _, _, _], _ => rfl
  have F6 := fun_mk (st := sSub) l6 c6 k6
  have b6 := F6.binds (ps := ["start", "moves", "ends", "limit"]) fun _ _ _ _ _ _ us hl => match us, hl with | [_, _, _, _], _ => rfl
  have F7 := fun_mk (st := sGroup) l7 c7 k7
  have b7 := F7.binds (ps := ["nodes", "moves"]) fun _ _ _ _ _ _ us hl => match us, hl with | [_, _], _ => rfl
  have F8 := fun_mk (st := sAlike) l8 c8 k8
  have b8 := F8.binds (ps := ["table"]) fun _ _ _ _ _ _ us hl => match us, hl with | [_], _ => rfl
  have F9 := fun_mk (st := sRef) l9 c9 k9
  have b9 := F9.binds (ps := ["table", "classes"]) fun _ _ _ _ _ _ us hl => match us, hl with | [_, _], _ => rfl
  have F10 := fun_mk (st := sLeast) l10 c10 k10
  have b10 := F10.binds (ps := ["table"]) fun _ _ _ _ _ _ us hl => match us, hl with | [_], _ => rfl
  have F11 := fun_mk (st := sEra) l11 c11 k11
  have b11 := F11.binds (ps := ["table", "party", "seen"]) fun _ _ _ _ _ _ us hl => match us, hl with | [_, _, _], _ => rfl
  have F12 := fun_mk (st := sPof) l12 c12 k12
  have b12 := F12.binds (ps := ["table"]) fun _ _ _ _ _ _ us hl => match us, hl with | [_], _ => rfl
  have F13 := fun_mk (st := sMof) l13 c13 k13
  have b13 := F13.binds (ps := ["table", "party"]) fun _ _ _ _ _ _ us hl => match us, hl with | [_, _], _ => rfl
  have F14 := fun_mk (st := sMsof) l14 c14 k14
  have b14 := F14.binds (ps := ["table"]) fun _ _ _ _ _ _ us hl => match us, hl with | [_], _ => rfl
  have F15 := fun_mk (st := sNj) l15 c15 k15
  have b15 := F15.binds (ps := ["table", "machines", "joint", "action"]) fun _ _ _ _ _ _ us hl => match us, hl with | [_, _, _, _], _ => rfl
  have F16 := fun_mk (st := sJs) l16 c16 k16
  have b16 := F16.binds (ps := ["table"]) fun _ _ _ _ _ _ us hl => match us, hl with | [_], _ => rfl
  have F17 := fun_mk (st := sSeen) l17 c17 k17
  have b17 := F17.binds (ps := ["table", "party", "sight", "wanted"]) fun _ _ _ _ _ _ us hl => match us, hl with | [_, _, _, _], _ => rfl
  have F18 := fun_mk (st := sSbp) l18 c18 k18
  have b18 := F18.binds (ps := ["machines", "joint"]) fun _ _ _ _ _ _ us hl => match us, hl with | [_, _], _ => rfl
  have F19 := fun_mk (st := sSends) l19 c19 k19
  have b19 := F19.binds (ps := ["machines", "states"]) fun _ _ _ _ _ _ us hl => match us, hl with | [_, _], _ => rfl
  have F20 := fun_mk (st := sStray) l20 c20 k20
  have b20 := F20.binds (ps := ["table", "machines", "joint", "run"]) fun _ _ _ _ _ _ us hl => match us, hl with | [_, _, _, _], _ => rfl
  have F21 := fun_mk (st := sIdle) l21 c21 k21
  have b21 := F21.binds (ps := ["table", "machines", "joint", "run"]) fun _ _ _ _ _ _ us hl => match us, hl with | [_, _, _, _], _ => rfl
  have F22 := fun_mk (st := sChk) l22 c22 k22
  have b22 := F22.binds (ps := ["table"]) fun _ _ _ _ _ _ us hl => match us, hl with | [_], _ => rfl
  have F23 := fun_mk (st := sUnr) l23 c23 k23
  have b23 := F23.binds (ps := ["table"]) fun _ _ _ _ _ _ us hl => match us, hl with | [_], _ => rfl
  have F24 := fun_mk (st := sBes) l24 c24 k24
  have b24 := F24.binds (ps := ["one", "other"]) fun _ _ _ _ _ _ us hl => match us, hl with | [_, _], _ => rfl
  have F25 := fun_mk (st := sLst) l25 c25 k25
  have b25 := F25.binds (ps := ["_law_script"]) fun _ _ _ _ _ _ us hl => match us, hl with | [_], _ => rfl
  have F26 := fun_mk (st := sDraw) l26 c26 k26
  have b26 := F26.binds (ps := ["_law_state_here", "_law_limit"]) fun _ _ _ _ _ _ us hl => match us, hl with | [_, _], _ => rfl
  have F27 := fun_mk (st := sNam) l27 c27 k27
  have b27 := F27.binds (ps := ["_law_state_here"]) fun _ _ _ _ _ _ us hl => match us, hl with | [_], _ => rfl
  have F28 := fun_mk (st := sNms) l28 c28 k28
  have b28 := F28.binds (ps := ["_law_state_here", "_law_count", "_law_taken"]) fun _ _ _ _ _ _ us hl => match us, hl with | [_, _, _], _ => rfl
  have F29 := fun_mk (st := sEdge) l29 c29 k29
  have b29 := F29.binds (ps := ["_law_state_here", "_law_row", "_law_parties_here", "_law_labels", "_law_goal"]) fun _ _ _ _ _ _ us hl => match us, hl with | [_, _, _, _, _], _ => rfl
  have F30 := fun_mk (st := sTab) l30 c30 k30
  have b30 := F30.binds (ps := ["_law_state_here", "_law_parties_here", "_law_labels", "_law_size"]) fun _ _ _ _ _ _ us hl => match us, hl with | [_, _, _, _], _ => rfl
  have F31 := fun_mk (st := sStp) l31 c31 k31
  have b31 := F31.binds (ps := ["_law_table_here", "_law_state_here", "_law_action"]) fun _ _ _ _ _ _ us hl => match us, hl with | [_, _, _], _ => rfl
  have F32 := fun_mk (st := sLun) l32 c32 k32
  have b32 := F32.binds (ps := ["_law_table_here", "_law_states", "_law_party"]) fun _ _ _ _ _ _ us hl => match us, hl with | [_, _, _], _ => rfl
  have F33 := fun_mk (st := sLse) l33 c33 k33
  have b33 := F33.binds (ps := ["_law_table_here", "_law_states", "_law_party", "_law_action"]) fun _ _ _ _ _ _ us hl => match us, hl with | [_, _, _, _], _ => rfl
  have F34 := fun_mk (st := sLpa) l34 c34 k34
  have b34 := F34.binds (ps := ["_law_table_here"]) fun _ _ _ _ _ _ us hl => match us, hl with | [_], _ => rfl
  have F35 := fun_mk (st := sLsi) l35 c35 k35
  have b35 := F35.binds (ps := ["_law_table_here", "_law_parties_here", "_law_sights_here", "_law_action"]) fun _ _ _ _ _ _ us hl => match us, hl with | [_, _, _, _], _ => rfl
  have F36 := fun_mk (st := sLex) l36 c36 k36
  have b36 := F36.binds (ps := ["_law_table_here"]) fun _ _ _ _ _ _ us hl => match us, hl with | [_], _ => rfl
  have F37 := fun_mk (st := sLto) l37 c37 k37
  have b37 := F37.binds (ps := ["_law_table_here"]) fun _ _ _ _ _ _ us hl => match us, hl with | [_], _ => rfl
  have F38 := fun_mk (st := sLaw) l38 c38 k38
  have b38 := F38.binds (ps := ["_law_script"]) fun _ _ _ _ _ _ us hl => match us, hl with | [_], _ => rfl
  refine ⟨PySem.W.fnOf "law" "law" (defArgs sLaw) (defBody sLaw) (defScope sLaw) .none kV38 dc38 pm38 an38 cd38 ct38, fun s v => .of_eq rfl, fun base _ _ => ?_⟩
  have G_next : FnOk P w K mg base CX0 1 f1 _ ["table", "state", "action"] spNext := ok_next (k := 0) F1
  have G_conc : FnOk P w K mg base CX0 1 f2 _ ["action", "party"] spConc := ok_conc (k := 0) F2
  have G_view : FnOk P w K mg base CX0 2 f3 _ ["actions", "party"] spView := ok_view (k := 0) F3 F2 b2 (PySem.W.mg_of X G a2)
  have G_walk : FnOk P w K mg base CX0 2 f4 _ ["table", "actions"] spWalk := ok_walk (k := 0) F4 F1 b1 (PySem.W.mg_of X G a1)
  have G_unseen : FnOk P w K mg base CX0 2 f5 _ ["table", "state", "party", "seen"] spUnseen := ok_unseen (k := 0) F5 F2 b2 (PySem.W.mg_of X G a2) (PySem.W.mg_none_of X G z_sorted) (PySem.W.mg_none_of X G z_tuple)
  have G_sub : FnOk P w K mg base CX0 2 f6 _ ["start", "moves", "ends", "limit"] spSub := ok_sub (k := 0) F6 F7 b7 (PySem.W.mg_of X G a7) (PySem.W.mg_none_of X G z_sorted) (PySem.W.mg_none_of X G z_tuple) (PySem.W.mg_none_of X G z_len)
  have G_alike : FnOk P w K mg base CX0 2 f8 _ ["table"] spAlike := ok_alike (k := 0) F8 F9 b9 (PySem.W.mg_of X G a9) (PySem.W.mg_none_of X G z_tuple) (PySem.W.mg_none_of X G z_len) (PySem.W.mg_none_of X G z_enumerate) (PySem.W.mg_none_of X G z_set) (PySem.W.mg_none_of X G z_int)
  have G_least : FnOk P w K mg base CX0 3 f10 _ ["table"] spLeast := ok_least (k := 0) F10 (G_alike.mono (by decide)) k8 b8 (PySem.W.mg_of X G a8) (G_sub.mono (by decide)) k6 b6 (PySem.W.mg_of X G a6) (PySem.W.mg_none_of X G z_len) (PySem.W.mg_none_of X G z_enumerate)
  have G_era : FnOk P w K mg base CX0 4 f11 _ ["table", "party", "seen"] spEra := ok_era (k := 3) F11 (G_unseen.mono (by decide)) k5 b5 (PySem.W.mg_of X G a5) (G_conc.mono (by decide)) k2 b2 (PySem.W.mg_of X G a2) (G_least.mono (by decide)) k10 b10 (PySem.W.mg_of X G a10) (G_sub.mono (by decide)) k6 b6 (PySem.W.mg_of X G a6) (PySem.W.mg_none_of X G z_len) (PySem.W.mg_none_of X G z_range) (PySem.W.mg_of X G nSTATES)
  have G_pof : FnOk P w K mg base CX0 1 f12 _ ["table"] spPof := ok_pof (k := 0) F12 (PySem.W.mg_none_of X G z_sorted)
  have G_mof : FnOk P w K mg base CX0 5 f13 _ ["table", "party"] spMof := ok_mof (k := 4) F13 (G_era.mono (by decide)) k11 b11 (PySem.W.mg_of X G a11)
  have G_msof : FnOk P w K mg base CX0 6 f14 _ ["table"] spMsof := ok_msof (k := 5) F14 (G_pof.mono (by decide)) k12 b12 (PySem.W.mg_of X G a12) (G_mof.mono (by decide)) k13 b13 (PySem.W.mg_of X G a13)
  have G_nj : FnOk P w K mg base CX0 2 f15 _ ["table", "machines", "joint", "action"] spNj := ok_nj (k := 1) F15 (G_next.mono (by decide)) k1 b1 (PySem.W.mg_of X G a1) (G_conc.mono (by decide)) k2 b2 (PySem.W.mg_of X G a2) (PySem.W.mg_none_of X G z_tuple) (PySem.W.mg_none_of X G z_enumerate)
  have G_js : FnOk P w K mg base (L2.CX P w) 7 f16 _ ["table"] (spJs C) := ok_js (k := 6) F16 (G_msof.mono (by decide)) k14 b14 (PySem.W.mg_of X G a14) (G_nj.mono (by decide)) k15 b15 (PySem.W.mg_of X G a15) PySem.F.excBase_ValueError eC (PySem.W.mg_of X G aC) kC sC tC (PySem.W.mg_none_of X G z_tuple) (PySem.W.mg_none_of X G z_len) (PySem.W.mg_of X G nJOINT)
  have G_seen : FnOk P w K mg base CX0 2 f17 _ ["table", "party", "sight", "wanted"] spSeen := ok_seen (k := 1) F17 (G_next.mono (by decide)) k1 b1 (PySem.W.mg_of X G a1) (G_conc.mono (by decide)) k2 b2 (PySem.W.mg_of X G a2) (PySem.W.mg_none_of X G z_len)
  have G_sbp : FnOk P w K mg base CX0 1 f18 _ ["machines", "joint"] spSbp := ok_sbp (k := 0) F18 (PySem.W.mg_none_of X G z_enumerate)
  have G_sends : FnOk P w K mg base CX0 1 f19 _ ["machines", "states"] spSends := ok_sends (k := 0) F19 (PySem.W.mg_none_of X G z_sorted)
  have G_stray : FnOk P w K mg base CX0 3 f20 _ ["table", "machines", "joint", "run"] spStray := ok_stray (k := 2) F20 (G_sbp.mono (by decide)) k18 b18 (PySem.W.mg_of X G a18) (G_sends.mono (by decide)) k19 b19 (PySem.W.mg_of X G a19) (G_next.mono (by decide)) k1 b1 (PySem.W.mg_of X G a1) (G_seen.mono (by decide)) k17 b17 (PySem.W.mg_of X G a17) (G_view.mono (by decide)) k3 b3 (PySem.W.mg_of X G a3)
  have G_idle : FnOk P w K mg base CX0 3 f21 _ ["table", "machines", "joint", "run"] spIdle := ok_idle (k := 2) F21 (G_sbp.mono (by decide)) k18 b18 (PySem.W.mg_of X G a18) (G_seen.mono (by decide)) k17 b17 (PySem.W.mg_of X G a17) (G_view.mono (by decide)) k3 b3 (PySem.W.mg_of X G a3) (PySem.W.mg_none_of X G z_sorted)
  have G_chk : FnOk P w K mg base (L2.CX P w) 8 f22 _ ["table"] (spChk C) := ok_chk (k := 7) F22 (G_msof.mono (by decide)) k14 b14 (PySem.W.mg_of X G a14) (G_js.mono (by decide)) k16 b16 (PySem.W.mg_of X G a16) (G_stray.mono (by decide)) k20 b20 (PySem.W.mg_of X G a20) (G_idle.mono (by decide)) k21 b21 (PySem.W.mg_of X G a21)
  have G_unr : FnOk P w K mg base (L2.CX P w) 8 f23 _ ["table"] (spUnr C) := ok_unr (k := 7) F23 (G_msof.mono (by decide)) k14 b14 (PySem.W.mg_of X G a14) (G_js.mono (by decide)) k16 b16 (PySem.W.mg_of X G a16) (G_sends.mono (by decide)) k19 b19 (PySem.W.mg_of X G a19) (G_sbp.mono (by decide)) k18 b18 (PySem.W.mg_of X G a18) (G_walk.mono (by decide)) k4 b4 (PySem.W.mg_of X G a4) (G_seen.mono (by decide)) k17 b17 (PySem.W.mg_of X G a17) (G_view.mono (by decide)) k3 b3 (PySem.W.mg_of X G a3)
  have G_bes : FnOk P w K mg base CX0 3 f24 _ ["one", "other"] spBes := ok_bes (k := 2) F24 (G_sub.mono (by decide)) k6 b6 (PySem.W.mg_of X G a6) (PySem.W.mg_none_of X G z_len) (PySem.W.mg_none_of X G z_enumerate) (PySem.W.mg_of X G nSTATES)
  have G_lst : FnOk P w K mg base CX0 1 f25 _ ["_law_script"] (spLst K) := ok_lst (k := 0) F25 (PySem.W.mg_none_of X G z_list)
  have G_draw : FnOk P w K mg base CX0 1 f26 _ ["_law_state_here", "_law_limit"] spDraw := ok_draw (k := 0) F26 (PySem.W.mg_none_of X G z_len) (PySem.W.mg_none_of X G z_int)
  have G_nam : FnOk P w K mg base CX0 2 f27 _ ["_law_state_here"] spNam := ok_nam (k := 1) F27 (G_draw.mono (by decide)) k26 b26 (PySem.W.mg_of X G a26) (PySem.W.mg_none_of X G z_int)
  have G_nms : FnOk P w K mg base CX0 3 f28 _ ["_law_state_here", "_law_count", "_law_taken"] spNms := ok_nms (k := 2) F28 (G_nam.mono (by decide)) k27 b27 (PySem.W.mg_of X G a27) (PySem.W.mg_none_of X G z_range) (PySem.W.mg_none_of X G z_str)
  have G_edge : FnOk P w K mg base CX0 2 f29 _ ["_law_state_here", "_law_row", "_law_parties_here", "_law_labels", "_law_goal"] spEdge := ok_edge (k := 1) F29 (G_draw.mono (by decide)) k26 b26 (PySem.W.mg_of X G a26) (PySem.W.mg_none_of X G z_int) (PySem.W.mg_none_of X G z_len)
  have G_tab : FnOk P w K mg base CX0 3 f30 _ ["_law_state_here", "_law_parties_here", "_law_labels", "_law_size"] spTab := ok_tab (k := 2) F30 (G_draw.mono (by decide)) k26 b26 (PySem.W.mg_of X G a26) (G_edge.mono (by decide)) k29 b29 (PySem.W.mg_of X G a29) (PySem.W.mg_none_of X G z_range) (PySem.W.mg_none_of X G z_tuple) (PySem.W.mg_none_of X G z_sorted)
  have G_stp : FnOk P w K mg base CX0 1 f31 _ ["_law_table_here", "_law_state_here", "_law_action"] spNext := ok_stp (k := 0) F31
  have G_lun : FnOk P w K mg base CX0 1 f32 _ ["_law_table_here", "_law_states", "_law_party"] spLun := ok_lun (k := 0) F32 (PySem.W.mg_none_of X G z_list) (PySem.W.mg_none_of X G z_range) (PySem.W.mg_none_of X G z_sorted)
  have G_lse : FnOk P w K mg base CX0 2 f33 _ ["_law_table_here", "_law_states", "_law_party", "_law_action"] spLse := ok_lse (k := 1) F33 (G_stp.mono (by decide)) k31 b31 (PySem.W.mg_of X G a31) (G_lun.mono (by decide)) k32 b32 (PySem.W.mg_of X G a32)
  have G_lpa : FnOk P w K mg base CX0 1 f34 _ ["_law_table_here"] spLpa := ok_lpa (k := 0) F34 (PySem.W.mg_none_of X G z_sorted)
  have G_lsi : FnOk P w K mg base CX0 3 f35 _ ["_law_table_here", "_law_parties_here", "_law_sights_here", "_law_action"] spLsi := ok_lsi (k := 2) F35 (G_lse.mono (by decide)) k33 b33 (PySem.W.mg_of X G a33) (PySem.W.mg_none_of X G z_range) (PySem.W.mg_none_of X G z_len)
  have G_lex : FnOk P w K mg base CX0 4 f36 _ ["_law_table_here"] spLex := ok_lex (k := 3) F36 (G_lpa.mono (by decide)) k34 b34 (PySem.W.mg_of X G a34) (G_lun.mono (by decide)) k32 b32 (PySem.W.mg_of X G a32) (G_lsi.mono (by decide)) k35 b35 (PySem.W.mg_of X G a35) (PySem.W.mg_none_of X G z_range) (PySem.W.mg_none_of X G z_len) (PySem.W.mg_none_of X G z_tuple)
  have G_lto : FnOk P w K mg base CX0 9 f37 _ ["_law_table_here"] spLto := ok_lto (k := 8) F37 (G_chk.mono (by decide)) k22 b22 (PySem.W.mg_of X G a22) (G_unr.mono (by decide)) k23 b23 (PySem.W.mg_of X G a23) (PySem.W.mg_of X G aC) (exm_own sC iC tC ssC)
  have G_law : FnOk P w K mg base CX0 10 fa _ ["_law_script"] (spLaw K) := ok_law (k := 9) F38 (G_lst.mono (by decide)) k25 b25 (PySem.W.mg_of X G a25) (G_draw.mono (by decide)) k26 b26 (PySem.W.mg_of X G a26) (G_nms.mono (by decide)) k28 b28 (PySem.W.mg_of X G a28) (G_tab.mono (by decide)) k30 b30 (PySem.W.mg_of X G a30) (G_bes.mono (by decide)) k24 b24 (PySem.W.mg_of X G a24) (G_lto.mono (by decide)) k37 b37 (PySem.W.mg_of X G a37) (G_lex.mono (by decide)) k36 b36 (PySem.W.mg_of X G a36)
  exact G_law
end PL
open PySem PySem.W PyProof.Rows
set_option maxHeartbeats 0 in
theorem PySem.Challenge.cw_pactloom_k45_whole_strangers_beside_one_holds : PySem.Challenge.rw_pactloom_k45_whole_strangers_beside_one.Holds := by
  w_on; o_law; k_head; (case hw => w_witness2)
  k_fill
  refine L2.walk_of (l := PySem.Challenge.rw_pactloom_k45_whole_strangers_beside_one) (n := 63) (k := 10) (x := "_law_script") (CX := fun _ => L2.CX0) (sp := fun w => PL.spLaw _) rfl (by decide) rfl ⟨rfl, by decide, by decide⟩ (fun w h Y => PySem.W.kIn_of Y) ?F (fun _ _ a ns hl hO hS => PL.law_spec hl hS) (fun _ _ _ _ _ h => h)
  case F =>
    intro w mg fa h KX G hmg
    refine' PL.ends KX G hmg ?a1 ?l1 ?c1 ?k1 ?a2 ?l2 ?c2 ?k2 ?a3 ?l3 ?c3 ?k3 ?a4 ?l4 ?c4 ?k4 ?a5 ?l5 ?c5 ?k5 ?a6 ?l6 ?c6 ?k6 ?a7 ?l7 ?c7 ?k7 ?a8 ?l8 ?c8 ?k8 ?a9 ?l9 ?c9 ?k9 ?a10 ?l10 ?c10 ?k10 ?a11 ?l11 ?c11 ?k11 ?a12 ?l12 ?c12 ?k12 ?a13 ?l13 ?c13 ?k13 ?a14 ?l14 ?c14 ?k14 ?a15 ?l15 ?c15 ?k15 ?a16 ?l16 ?c16 ?k16 ?a17 ?l17 ?c17 ?k17 ?a18 ?l18 ?c18 ?k18 ?a19 ?l19 ?c19 ?k19 ?a20 ?l20 ?c20 ?k20 ?a21 ?l21 ?c21 ?k21 ?a22 ?l22 ?c22 ?k22 ?a23 ?l23 ?c23 ?k23 ?a24 ?l24 ?c24 ?k24 ?a25 ?l25 ?c25 ?k25 ?a26 ?l26 ?c26 ?k26 ?a27 ?l27 ?c27 ?k27 ?a28 ?l28 ?c28 ?k28 ?a29 ?l29 ?c29 ?k29 ?a30 ?l30 ?c30 ?k30 ?a31 ?l31 ?c31 ?k31 ?a32 ?l32 ?c32 ?k32 ?a33 ?l33 ?c33 ?k33 ?a34 ?l34 ?c34 ?k34 ?a35 ?l35 ?c35 ?k35 ?a36 ?l36 ?c36 ?k36 ?a37 ?l37 ?c37 ?k37 ?a38 ?l38 ?c38 ?k38 ?z_enumerate ?z_int ?z_len ?z_list ?z_range ?z_set ?z_sorted ?z_str ?z_tuple ?nSTATES ?nJOINT ?aC ?eC ?kC ?sC ?tC ?iC ?ssC
    (case a1 => k_is)
    (case l1 => k_is)
    (case c1 => k_is)
    (case k1 => k_is)
    (case a2 => k_is)
    (case l2 => k_is)
    (case c2 => k_is)
    (case k2 => k_is)
    (case a3 => k_is)
    (case l3 => k_is)
    (case c3 => k_is)
    (case k3 => k_is)
    (case a4 => k_is)
    (case l4 => k_is)
    (case c4 => k_is)
    (case k4 => k_is)
    (case a5 => k_is)
    (case l5 => k_is)
    (case c5 => k_is)
    (case k5 => k_is)
    (case a6 => k_is)
    (case l6 => k_is)
    (case c6 => k_is)
    (case k6 => k_is)
    (case a7 => k_is)
    (case l7 => k_is)
    (case c7 => k_is)
    (case k7 => k_is)
    (case a8 => k_is)
    (case l8 => k_is)
    (case c8 => k_is)
    (case k8 => k_is)
    (case a9 => k_is)
    (case l9 => k_is)
    (case c9 => k_is)
    (case k9 => k_is)
    (case a10 => k_is)
    (case l10 => k_is)
    (case c10 => k_is)
    (case k10 => k_is)
    (case a11 => k_is)
    (case l11 => k_is)
    (case c11 => k_is)
    (case k11 => k_is)
    (case a12 => k_is)
    (case l12 => k_is)
    (case c12 => k_is)
    (case k12 => k_is)
    (case a13 => k_is)
    (case l13 => k_is)
    (case c13 => k_is)
    (case k13 => k_is)
    (case a14 => k_is)
    (case l14 => k_is)
    (case c14 => k_is)
    (case k14 => k_is)
    (case a15 => k_is)
    (case l15 => k_is)
    (case c15 => k_is)
    (case k15 => k_is)
    (case a16 => k_is)
    (case l16 => k_is)
    (case c16 => k_is)
    (case k16 => k_is)
    (case a17 => k_is)
    (case l17 => k_is)
    (case c17 => k_is)
    (case k17 => k_is)
    (case a18 => k_is)
    (case l18 => k_is)
    (case c18 => k_is)
    (case k18 => k_is)
    (case a19 => k_is)
    (case l19 => k_is)
    (case c19 => k_is)
    (case k19 => k_is)
    (case a20 => k_is)
    (case l20 => k_is)
    (case c20 => k_is)
    (case k20 => k_is)
    (case a21 => k_is)
    (case l21 => k_is)
    (case c21 => k_is)
    (case k21 => k_is)
    (case a22 => k_is)
    (case l22 => k_is)
    (case c22 => k_is)
    (case k22 => k_is)
    (case a23 => k_is)
    (case l23 => k_is)
    (case c23 => k_is)
    (case k23 => k_is)
    (case a24 => k_is)
    (case l24 => k_is)
    (case c24 => k_is)
    (case k24 => k_is)
    (case a25 => k_is)
    (case l25 => k_is)
    (case c25 => k_is)
    (case k25 => k_is)
    (case a26 => k_is)
    (case l26 => k_is)
    (case c26 => k_is)
    (case k26 => k_is)
    (case a27 => k_is)
    (case l27 => k_is)
    (case c27 => k_is)
    (case k27 => k_is)
    (case a28 => k_is)
    (case l28 => k_is)
    (case c28 => k_is)
    (case k28 => k_is)
    (case a29 => k_is)
    (case l29 => k_is)
    (case c29 => k_is)
    (case k29 => k_is)
    (case a30 => k_is)
    (case l30 => k_is)
    (case c30 => k_is)
    (case k30 => k_is)
    (case a31 => k_is)
    (case l31 => k_is)
    (case c31 => k_is)
    (case k31 => k_is)
    (case a32 => k_is)
    (case l32 => k_is)
    (case c32 => k_is)
    (case k32 => k_is)
    (case a33 => k_is)
    (case l33 => k_is)
    (case c33 => k_is)
    (case k33 => k_is)
    (case a34 => k_is)
    (case l34 => k_is)
    (case c34 => k_is)
    (case k34 => k_is)
    (case a35 => k_is)
    (case l35 => k_is)
    (case c35 => k_is)
    (case k35 => k_is)
    (case a36 => k_is)
    (case l36 => k_is)
    (case c36 => k_is)
    (case k36 => k_is)
    (case a37 => k_is)
    (case l37 => k_is)
    (case c37 => k_is)
    (case k37 => k_is)
    (case a38 => k_is)
    (case l38 => k_is)
    (case c38 => k_is)
    (case k38 => k_is)
    (case z_enumerate => k_is)
    (case z_int => k_is)
    (case z_len => k_is)
    (case z_list => k_is)
    (case z_range => k_is)
    (case z_set => k_is)
    (case z_sorted => k_is)
    (case z_str => k_is)
    (case z_tuple => k_is)
    (case nSTATES => k_is)
    (case nJOINT => k_is)
    (case aC => k_is)
    (case eC => k_exc)
    (case kC => k_is)
    (case sC => k_is)
    (case tC => k_is)
    (case iC => k_is)
    (case ssC => first | rfl | k_is)
