import PyProof.Rows.All
import Wide.All
import OpenK.AllK
import Wide.FinOn
import HandS.ForMost
import HandS.ForExc
import HandS.TupAny
import HandS.WideBits
import HandS.IsInst
import HandS.Flow
import HandS.Comp
import HandS.ExcOwn
import HandS.WordsExc
import HandS.DictComp
import HandS.ForDict
import HandS.More
import HandS.Iter
import HandS.SortInts
import HandS.Conv
import HandS.TryOnly
import HandS.TryMany
import HandS.ExcInit
import HandS.ExcField
import KE.GoesEnum
import KE.GoesZip
import HandS.Zip
import HandS.OwnEq
import HandS.EndBits
import PySem.Challenge.RW_dealtblocks_k01_rules_refused
set_option Elab.async false
set_option linter.all false
set_option maxRecDepth 100000
set_option maxHeartbeats 4000000
namespace M
open PySem L2

/-- m: the numbered lists and dicts; z: those that do not change any more -/
structure Mu where
  m : List Addr
  z : List Addr
def Mu.add (μ : Mu) (p : Addr) : Mu := ⟨μ.m ++ [p], μ.z⟩
def Mu.put (μ : Mu) (p : Addr) : Mu := ⟨μ.m, μ.z ++ [p]⟩
/-! ### values as trees, the heap of lists and dicts by numbers -/
inductive T where
  | non | bl (b : Bool) | int (i : Int) | str (x : Str)
  | tup (ts : List T)
  | ins (c : Nat) (ts : List T)
  | obj (n : Nat)
  | scr (ns : List Int)
  | raw (v : V)
  | lv (ts : List T) | dv (ks : List Key) (ts : List T)
inductive MO where
  | lst (ts : List T) | dK (kvs : List (Key × T)) | dT (kvs : List (List Key × T)) | any
abbrev AH := List MO
abbrev Env := List (Option T)
structure Exn where
  c : Nat
  arg : Option T
inductive Out (α : Type) where
  | ok (a : α) (h : AH) | ex (x : Exn) (h : AH) | bad
inductive OutS where
  | nx (e : Env) (h : AH) | rt (t : T) (h : AH) | bk (e : Env) (h : AH) | ct (e : Env) (h : AH) | ex (x : Exn) (e : Env) (h : AH) | bad
/-- where the classes stand: own classes, own exceptions; their fields -/
structure CT where
  cl : Nat → Addr
  xc : Nat → Addr
/-- the fields of the own classes, of the own exceptions -/
def FL : Nat → List Str
  | 0 => ["size", "rest", "dealing", "restoring", "finding"]
  | 1 => ["following", "pool_row", "here", "blocks", "saves", "used", "tops", "lowest"]
  | 2 => ["rule", "rows", "stands"]
  | _ => ["?"]
def XF : Nat → Str
  | 0 => "part" | _ => "line"

def SqF (K : PySem.W.Frag) (H : Hp) (a : Addr) (xs : List V) : Prop := (∃ o, H a = some (.frz o (.lst xs))) ∨
    ∃ (o : Obj) (its : Array Value) (n : Nat), K.lookup a = some o ∧ o.cls = .type "list" ∧ o.dict = none ∧ o.data = .seq its n ∧ its.size ≤ sizeLine ∧ Vals xs its.toList
theorem SqF.sql {K : PySem.W.Frag} {H : Hp} {a : Addr} {xs : List V} (h : SqF K H a xs) : SqL K H a xs := by
  rcases h with h | h
  · exact .inl (.inr h)
  · exact .inr h

section
variable (G : CT) (K : PySem.W.Frag) (μ : Mu) (H : Hp)
mutual
inductive Is : T → V → Prop where
  | non : Is .non .non
  | bl (b : Bool) : Is (.bl b) (.bl b)
  | int (i : Int) : Is (.int i) (.int i)
  | str (x : Str) : Is (.str x) (.str x)
  | tup {a : Addr} {ts : List T} {vs : List V} : SqT K H a vs → IsL ts vs → Is (.tup ts) (.ref a)
  | ins {a dx : Addr} {c : Nat} {ts : List T} {vs : List V} : H a = some (.ins (G.cl c) dx ((FL c).zip vs)) → vs.length = (FL c).length → IsL ts vs → Is (.ins c ts) (.ref a)
  | obj {n : Nat} {a : Addr} : μ.m[n]? = some a → Is (.obj n) (.ref a)
  | lv {a : Addr} {ts : List T} {vs : List V} : a ∈ μ.z → H a = some (.lst vs) → IsL ts vs → Is (.lv ts) (.ref a)
  | dv {a : Addr} {ks : List Key} {ts : List T} {vs : List V} : a ∈ μ.z → H a = some (.dK (ks.zip vs)) → ks.length = vs.length → IsL ts vs → Is (.dv ks ts) (.ref a)
  | scr {a : Addr} {ns : List Int} : SqF K H a (ns.map V.int) → Is (.scr ns) (.ref a)
  | raw (v : V) : Is (.raw v) v
inductive IsL : List T → List V → Prop where
  | nil : IsL [] []
  | cons {t : T} {ts : List T} {v : V} {vs : List V} : Is t v → IsL ts vs → IsL (t :: ts) (v :: vs)
end
inductive IsK {κ : Type} : List (κ × T) → List (κ × V) → Prop where
  | nil : IsK [] []
  | cons {k : κ} {t : T} {v : V} {kts : List (κ × T)} {kvs : List (κ × V)} : Is G K μ H t v → IsK kts kvs → IsK ((k, t) :: kts) ((k, v) :: kvs)
inductive IsM : MO → HO → Prop where
  | lst {ts : List T} {vs : List V} : IsL G K μ H ts vs → IsM (.lst ts) (.lst vs)
  | dK {kts : List (Key × T)} {kvs : List (Key × V)} : IsK G K μ H kts kvs → IsM (.dK kts) (.dK kvs)
  | dT {kts : List (List Key × T)} {kvs : List (List Key × V)} : IsK G K μ H kts kvs → IsM (.dT kts) (.dT kvs)
  | any (o : HO) : IsM .any o
structure RepH (h : AH) : Prop where
  len : μ.m.length = h.length
  nd : μ.m.Nodup
  zm : ∀ a, a ∈ μ.z → a ∉ μ.m
  zd : ∀ a, a ∈ μ.z → ∃ o, H a = some o
  at_ : ∀ (n : Nat) (a : Addr) (mo : MO), μ.m[n]? = some a → h[n]? = some mo → ∃ o, H a = some o ∧ IsM G K μ H mo o
structure RepE (σ : L2.St) (env : Env) : Prop where
  len : σ.length = env.length
  at_ : ∀ (i : Nat) (t : T), env[i]? = some (some t) → ∃ v, σ[i]? = some (some v) ∧ Is G K μ H t v
structure IsX (x : Exn) (cls : Value) (d : Option Addr) : Prop where
  cls : cls = .ref (G.xc x.c)
  arg : match x.arg with
    | none => d = none
    | some t => ∃ dd v, d = some dd ∧ H dd = some (.xd [(XF x.c, v)]) ∧ Is G K μ H t v
end
/-- what never changes (an instance that has not all its fields is still being made) -/
def cFull (fs : List (Str × V)) : Bool := let ks := fs.map (·.1); ks == FL 0 || ks == FL 1 || ks == FL 2 || ks == [("?" : Str)]
theorem cFull_of {c : Nat} {vs : List V} (h : vs.length = (FL c).length) : cFull ((FL c).zip vs) = true := by
  unfold cFull
  have e : ((FL c).zip vs).map (·.1) = FL c := List.map_fst_zip (by omega)
  simp only [e]
  match c with
  | 0 => simp
  | 1 => simp
  | 2 => simp
  | n + 3 => simp [FL]
def imm : HO → Bool
  | .lst _ => false | .dK _ => false | .dT _ => false | .set _ _ => false | .ins _ _ fs => cFull fs | _ => true
structure Ext (μ : Mu) (H : Hp) (μ' : Mu) (H' : Hp) : Prop where
  pre : ∃ ν ζ, μ' = ⟨μ.m ++ ν, μ.z ++ ζ⟩ ∧ (∀ a ∈ ν, H a = none) ∧ ∀ a ∈ ζ, H a = none
  fr : ∀ a o, H a = some o → a ∉ μ.m → H' a = some o
  dom : ∀ a, H' a = none → H a = none
  im : ∀ a o, H a = some o → imm o = true → H' a = some o
  zk : ∀ a o, a ∈ μ.z → H a = some o → H' a = some o
section
variable {G : CT} {K : PySem.W.Frag} {μ μ' μ1 μ2 : Mu} {H H' H1 H2 : Hp} {h : AH}
theorem Ext.refl : Ext μ H μ H := ⟨⟨[], [], by simp, (fun _ h => by cases h), fun _ h => by cases h⟩, fun _ _ e _ => e, fun _ e => e, fun _ _ e _ => e, fun _ _ _ e => e⟩
theorem Ext.out (e : Ext μ H μ' H') {a : Addr} {o : HO} (h : H a = some o) (n : a ∉ μ.m) : a ∉ μ'.m := by
  obtain ⟨ν, ζ, q, f, _⟩ := e.pre
  rw [q]
  intro z
  rcases List.mem_append.mp z with z | z
  · exact n z
  · rw [f a z] at h
    cases h
theorem Ext.outz (e : Ext μ H μ' H') {a : Addr} {o : HO} (h : H a = some o) (n : a ∉ μ.z) : a ∉ μ'.z := by
  obtain ⟨ν, ζ, q, _, f⟩ := e.pre
  rw [q]
  intro z
  rcases List.mem_append.mp z with z | z
  · exact n z
  · rw [f a z] at h
    cases h
theorem Ext.mz (e : Ext μ H μ' H') {a : Addr} (h : a ∈ μ.z) : a ∈ μ'.z := by
  obtain ⟨ν, ζ, q, _⟩ := e.pre
  rw [q]
  exact List.mem_append_left _ h
theorem Ext.trans (a : Ext μ H μ1 H1) (b : Ext μ1 H1 μ2 H2) : Ext μ H μ2 H2 := by
  obtain ⟨ν, ζ, e1, f1, g1⟩ := a.pre
  obtain ⟨ν', ζ', e2, f2, g2⟩ := b.pre
  refine ⟨⟨ν ++ ν', ζ ++ ζ', by rw [e2, e1]; simp only [List.append_assoc], fun x hx => ?_, fun x hx => ?_⟩, fun x o e n => b.fr x o (a.fr x o e n) (a.out e n), fun x e => a.dom x (b.dom x e), fun x o e i => b.im x o (a.im x o e i) i, fun x o hz e => b.zk x o (a.mz hz) (a.zk x o hz e)⟩
  · rcases List.mem_append.mp hx with z | z
    · exact f1 x z
    · exact a.dom x (f2 x z)
  · rcases List.mem_append.mp hx with z | z
    · exact g1 x z
    · exact a.dom x (g2 x z)
structure ExtI (μ : Mu) (H : Hp) (μ' : Mu) (H' : Hp) : Prop where
  pre : ∃ ν ζ, μ' = ⟨μ.m ++ ν, μ.z ++ ζ⟩
  im : ∀ a o, H a = some o → imm o = true → H' a = some o
  zk : ∀ a o, a ∈ μ.z → H a = some o → H' a = some o
theorem Ext.toI (e : Ext μ H μ' H') : ExtI μ H μ' H' := ⟨let ⟨ν, ζ, q, _⟩ := e.pre; ⟨ν, ζ, q⟩, e.im, e.zk⟩
theorem ExtI.mz (e : ExtI μ H μ' H') {a : Addr} (h : a ∈ μ.z) : a ∈ μ'.z := by
  obtain ⟨ν, ζ, q⟩ := e.pre
  rw [q]
  exact List.mem_append_left _ h
theorem ExtI.ix (e : ExtI μ H μ' H') {n : Nat} {a : Addr} (h : μ.m[n]? = some a) : μ'.m[n]? = some a := by
  obtain ⟨ν, ζ, q⟩ := e.pre
  rw [q]
  show (μ.m ++ ν)[n]? = _
  rw [List.getElem?_append_left (List.getElem?_eq_some_iff.mp h).1]
  exact h
theorem ExtI.trans (a : ExtI μ H μ1 H1) (b : ExtI μ1 H1 μ2 H2) : ExtI μ H μ2 H2 := by
  obtain ⟨ν, ζ, e1⟩ := a.pre
  obtain ⟨ν', ζ', e2⟩ := b.pre
  exact ⟨⟨ν ++ ν', ζ ++ ζ', by rw [e2, e1]; simp only [List.append_assoc]⟩, fun x o e i => b.im x o (a.im x o e i) i, fun x o hz e => b.zk x o (a.mz hz) (a.zk x o hz e)⟩
theorem ExtI.sqt (e : ExtI μ H μ' H') {a : Addr} {xs : List V} (h : SqT K H a xs) : SqT K H' a xs := by
  rcases h with (h | ⟨o, h⟩) | h
  · exact .inl (.inl (e.im _ _ h rfl))
  · exact .inl (.inr ⟨o, e.im _ _ h rfl⟩)
  · exact .inr h
theorem ExtI.sqf (e : ExtI μ H μ' H') {a : Addr} {xs : List V} (h : SqF K H a xs) : SqF K H' a xs := by
  rcases h with ⟨o, h⟩ | h
  · exact .inl ⟨o, e.im _ _ h rfl⟩
  · exact .inr h
theorem Ext.ix (e : Ext μ H μ' H') {n : Nat} {a : Addr} (h : μ.m[n]? = some a) : μ'.m[n]? = some a := e.toI.ix h
theorem Ext.sqt (e : Ext μ H μ' H') {a : Addr} {xs : List V} (h : SqT K H a xs) : SqT K H' a xs := e.toI.sqt h
mutual
theorem Is.monoI (e : ExtI μ H μ' H') : ∀ {t : T} {v : V}, Is G K μ H t v → Is G K μ' H' t v
  | _, _, .non => .non
  | _, _, .bl b => .bl b
  | _, _, .int i => .int i
  | _, _, .str x => .str x
  | _, _, .tup s l => .tup (e.sqt s) (IsL.monoI e l)
  | _, _, .ins s n l => .ins (e.im _ _ s (cFull_of n)) n (IsL.monoI e l)
  | _, _, .obj s => .obj (e.ix s)
  | _, _, .lv z s l => .lv (e.mz z) (e.zk _ _ z s) (IsL.monoI e l)
  | _, _, .dv z s n l => .dv (e.mz z) (e.zk _ _ z s) n (IsL.monoI e l)
  | _, _, .scr s => .scr (e.sqf s)
  | _, _, .raw v => .raw v
theorem IsL.monoI (e : ExtI μ H μ' H') : ∀ {ts : List T} {vs : List V}, IsL G K μ H ts vs → IsL G K μ' H' ts vs
  | _, _, .nil => .nil
  | _, _, .cons s l => .cons (Is.monoI e s) (IsL.monoI e l)
end
theorem Is.mono (e : Ext μ H μ' H') {t : T} {v : V} (i : Is G K μ H t v) : Is G K μ' H' t v := i.monoI e.toI
theorem IsL.mono (e : Ext μ H μ' H') {t : List T} {v : List V} (i : IsL G K μ H t v) : IsL G K μ' H' t v := i.monoI e.toI
theorem IsK.monoI {κ : Type} (e : ExtI μ H μ' H') : ∀ {ts : List (κ × T)} {vs : List (κ × V)}, IsK G K μ H ts vs → IsK G K μ' H' ts vs
  | _, _, .nil => .nil
  | _, _, .cons s l => .cons (s.monoI e) (IsK.monoI e l)
theorem IsK.mono {κ : Type} (e : Ext μ H μ' H') {ts : List (κ × T)} {vs : List (κ × V)} (i : IsK G K μ H ts vs) : IsK G K μ' H' ts vs := i.monoI e.toI
theorem IsM.monoI (e : ExtI μ H μ' H') {m : MO} {o : HO} (r : IsM G K μ H m o) : IsM G K μ' H' m o := by
  cases r with
  | lst l => exact .lst (l.monoI e)
  | dK l => exact .dK (l.monoI e)
  | dT l => exact .dT (l.monoI e)
  | any o => exact .any o
theorem IsM.mono (e : Ext μ H μ' H') {m : MO} {o : HO} (r : IsM G K μ H m o) : IsM G K μ' H' m o := r.monoI e.toI
theorem RepE.monoI (e : ExtI μ H μ' H') {σ : L2.St} {env : Env} (r : RepE G K μ H σ env) : RepE G K μ' H' σ env :=
  ⟨r.len, fun i t q => let ⟨v, a, b⟩ := r.at_ i t q; ⟨v, a, b.monoI e⟩⟩
theorem RepE.mono (e : Ext μ H μ' H') {σ : L2.St} {env : Env} (r : RepE G K μ H σ env) : RepE G K μ' H' σ env := r.monoI e.toI
theorem RepE.set {σ : L2.St} {env : Env} (r : RepE G K μ H σ env) {t : T} {v : V} (i : Nat) (s : Is G K μ H t v) : RepE G K μ H (σ.set i (some v)) (env.set i (some t)) := by
  refine ⟨by rw [List.length_set, List.length_set, r.len], fun j u q => ?_⟩
  by_cases hij : i = j
  · subst hij
    rw [List.getElem?_set_self'] at q
    cases hq : env[i]? with
    | none => rw [hq] at q; cases q
    | some z =>
      rw [hq] at q
      have q' : t = u := Option.some.inj (Option.some.inj q)
      subst q'
      refine ⟨v, ?_, s⟩
      have hl : i < σ.length := by rw [r.len]; exact (List.getElem?_eq_some_iff.mp hq).1
      rw [List.getElem?_set_self hl]
  · rw [List.getElem?_set_ne hij] at q
    obtain ⟨w, a, b⟩ := r.at_ j u q
    exact ⟨w, by rw [List.getElem?_set_ne hij]; exact a, b⟩
theorem RepE.wipe {σ : L2.St} {env : Env} (r : RepE G K μ H σ env) (i : Nat) : RepE G K μ H (σ.set i none) (env.set i none) := by
  refine ⟨by rw [List.length_set, List.length_set, r.len], fun j u q => ?_⟩
  by_cases hij : i = j
  · subst hij
    rw [List.getElem?_set_self'] at q
    cases hq : env[i]? with
    | none => rw [hq] at q; cases q
    | some z => rw [hq] at q; cases q
  · rw [List.getElem?_set_ne hij] at q
    obtain ⟨w, a, b⟩ := r.at_ j u q
    exact ⟨w, by rw [List.getElem?_set_ne hij]; exact a, b⟩
/-- a new thing that never changes -/
theorem dom_upd {p : Addr} {o : HO} (a : Addr) (h : upd H p o a = none) : H a = none := by
  by_cases z : a = p
  · subst z
    rw [upd_same] at h
    cases h
  · rw [upd_ne z] at h
    exact h
theorem keep_new {p : Addr} {o : HO} (hp : H p = none) (a : Addr) (u : HO) (e : H a = some u) : upd H p o a = some u := by
  rw [upd_ne (ne_of_none e hp)]
  exact e
theorem mu_self : μ = ⟨μ.m ++ [], μ.z ++ []⟩ := by simp
theorem ext_new {p : Addr} {o : HO} (hp : H p = none) : Ext μ H μ (upd H p o) := ⟨⟨[], [], mu_self, (fun _ h => by cases h), fun _ h => by cases h⟩, fun a u e _ => keep_new hp a u e, dom_upd, fun a u e _ => keep_new hp a u e, fun a u _ e => keep_new hp a u e⟩
theorem RepH.mono (e : Ext μ H μ H') (k : ∀ a o, a ∈ μ.m → H a = some o → H' a = some o) (r : RepH G K μ H h) : RepH G K μ H' h :=
  ⟨r.len, r.nd, r.zm, fun a z => let ⟨o, q⟩ := r.zd a z; ⟨o, e.zk a o z q⟩, fun n a mo q1 q2 => let ⟨o, e1, s⟩ := r.at_ n a mo q1 q2; ⟨o, k a o (List.mem_of_getElem? q1) e1, s.mono e⟩⟩
theorem RepH.new {p : Addr} {o : HO} (hp : H p = none) (r : RepH G K μ H h) : RepH G K μ (upd H p o) h :=
  r.mono (ext_new hp) fun a u _ e => keep_new hp a u e
theorem RepH.get (r : RepH G K μ H h) {n : Nat} {mo : MO} (q : h[n]? = some mo) : ∃ a o, μ.m[n]? = some a ∧ H a = some o ∧ IsM G K μ H mo o := by
  have hl : n < μ.m.length := by rw [r.len]; exact (List.getElem?_eq_some_iff.mp q).1
  obtain ⟨o, e, s⟩ := r.at_ n μ.m[n] mo (List.getElem?_eq_getElem hl) q
  exact ⟨μ.m[n], o, List.getElem?_eq_getElem hl, e, s⟩
theorem RepH.here (r : RepH G K μ H h) {a : Addr} (ha : a ∈ μ.m) : ∃ o, H a = some o := by
  obtain ⟨n, hn⟩ := List.mem_iff_getElem?.mp ha
  have hl : n < h.length := by rw [← r.len]; exact (List.getElem?_eq_some_iff.mp hn).1
  obtain ⟨o, e, s⟩ := r.at_ n a h[n] hn (List.getElem?_eq_getElem hl)
  exact ⟨o, e⟩
theorem RepH.notin (r : RepH G K μ H h) {p : Addr} (hp : H p = none) : p ∉ μ.m := fun z => by
  obtain ⟨o, e⟩ := r.here z
  rw [hp] at e
  cases e
theorem RepH.notz (r : RepH G K μ H h) {p : Addr} (hp : H p = none) : p ∉ μ.z := fun z => by
  obtain ⟨o, e⟩ := r.zd p z
  rw [hp] at e
  cases e
theorem len_alloc {p : Addr} (r : RepH G K μ H h) : (μ.add p).m[h.length]? = some p := by
  show (μ.m ++ [p])[h.length]? = _
  rw [← r.len, List.getElem?_append_right (Nat.le_refl _), Nat.sub_self]
  rfl
/-- a list or dict that stands apart is numbered -/
theorem Ext.join {p : Addr} (e : Ext μ1 H1 μ H) (hp : H1 p = none) : Ext μ1 H1 (μ.add p) H := by
  obtain ⟨ν, ζ, q, f, g⟩ := e.pre
  exact ⟨⟨ν ++ [p], ζ, by rw [q]; simp only [Mu.add, List.append_assoc], fun a ha => by
    rcases List.mem_append.mp ha with z | z
    · exact f a z
    · rw [List.mem_singleton.mp z]
      exact hp, g⟩, e.fr, e.dom, e.im, e.zk⟩
theorem extI_join {p : Addr} : ExtI μ H (μ.add p) H := ⟨⟨[p], [], by simp [Mu.add]⟩, fun _ _ e _ => e, fun _ _ _ e => e⟩
theorem RepH.join {p : Addr} {o : HO} {mo : MO} (r : RepH G K μ H h) (hp : p ∉ μ.m) (hz : p ∉ μ.z) (h0 : H p = some o) (s : IsM G K μ H mo o) : RepH G K (μ.add p) H (h ++ [mo]) := by
  have e : ExtI μ H (μ.add p) H := extI_join
  refine ⟨by show (μ.m ++ [p]).length = _; rw [List.length_append, List.length_append, r.len]; rfl, ?_, fun a ha hm => ?_, r.zd, fun n a m q1 q2 => ?_⟩
  · refine List.nodup_append.mpr ⟨r.nd, by simp, fun a ha b hb => ?_⟩
    have eb : b = p := by simpa using hb
    subst eb
    exact fun z => hp (by rw [← z]; exact ha)
  · rcases List.mem_append.mp hm with z | z
    · exact r.zm a ha z
    · rw [List.mem_singleton.mp z] at ha
      exact hz ha
  · have q1' : (μ.m ++ [p])[n]? = some a := q1
    by_cases hn : n < μ.m.length
    · rw [List.getElem?_append_left hn] at q1'
      rw [List.getElem?_append_left (by rw [← r.len]; exact hn)] at q2
      obtain ⟨u, eu, su⟩ := r.at_ n a m q1' q2
      exact ⟨u, eu, su.monoI e⟩
    · have en : n = μ.m.length := by
        have z := (List.getElem?_eq_some_iff.mp q1').1
        rw [List.length_append] at z
        have z2 : n < μ.m.length + 1 := z
        omega
      subst en
      rw [List.getElem?_append_right (Nat.le_refl _), Nat.sub_self] at q1'
      rw [r.len, List.getElem?_append_right (Nat.le_refl _), Nat.sub_self] at q2
      have z1 : p = a := by simpa using q1'
      have z2 : mo = m := by simpa using q2
      subst z1
      subst z2
      exact ⟨o, h0, s.monoI e⟩
/-- .. is kept for good -/
theorem Ext.joinZ {p : Addr} (e : Ext μ1 H1 μ H) (hp : H1 p = none) : Ext μ1 H1 (μ.put p) H := by
  obtain ⟨ν, ζ, q, f, g⟩ := e.pre
  exact ⟨⟨ν, ζ ++ [p], by rw [q]; simp only [Mu.put, List.append_assoc], f, fun a ha => by
    rcases List.mem_append.mp ha with z | z
    · exact g a z
    · rw [List.mem_singleton.mp z]
      exact hp⟩, e.fr, e.dom, e.im, e.zk⟩
theorem extI_joinZ {p : Addr} : ExtI μ H (μ.put p) H := ⟨⟨[], [p], by simp [Mu.put]⟩, fun _ _ e _ => e, fun _ _ _ e => e⟩
theorem RepH.joinZ {p : Addr} {o : HO} (r : RepH G K μ H h) (hp : p ∉ μ.m) (h0 : H p = some o) : RepH G K (μ.put p) H h := by
  have e : ExtI μ H (μ.put p) H := extI_joinZ
  refine ⟨r.len, r.nd, fun a ha => ?_, fun a ha => ?_, fun n a m q1 q2 => ?_⟩
  · rcases List.mem_append.mp ha with z | z
    · exact r.zm a z
    · rw [List.mem_singleton.mp z]
      exact hp
  · rcases List.mem_append.mp ha with z | z
    · exact r.zd a z
    · rw [List.mem_singleton.mp z]
      exact ⟨o, h0⟩
  · obtain ⟨u, eu, su⟩ := r.at_ n a m q1 q2
    exact ⟨u, eu, su.monoI e⟩
theorem mem_put {p : Addr} : p ∈ (μ.put p).z := List.mem_append_right _ (List.mem_singleton.mpr rfl)
/-- a new list or dict, numbered -/
theorem ext_alloc {p : Addr} {o : HO} (hp : H p = none) : Ext μ H (μ.add p) (upd H p o) := (ext_new hp).join hp
theorem RepH.alloc {p : Addr} {o : HO} {mo : MO} (hp : H p = none) (r : RepH G K μ H h) (s : IsM G K μ H mo o) : RepH G K (μ.add p) (upd H p o) (h ++ [mo]) :=
  (r.new hp).join (r.notin hp) (r.notz hp) upd_same (s.mono (ext_new hp))
/-- a new list or dict, kept for good -/
theorem ext_allocZ {p : Addr} {o : HO} (hp : H p = none) : Ext μ H (μ.put p) (upd H p o) := (ext_new hp).joinZ hp
theorem RepH.allocZ {p : Addr} {o : HO} (hp : H p = none) (r : RepH G K μ H h) : RepH G K (μ.put p) (upd H p o) h := (r.new hp).joinZ (r.notin hp) upd_same
theorem Is.lvZ {p : Addr} {ts : List T} {vs : List V} (hp : H p = none) (l : IsL G K μ H ts vs) : Is G K (μ.put p) (upd H p (.lst vs)) (.lv ts) (.ref p) := .lv mem_put upd_same (l.mono (ext_allocZ hp))
/-- a numbered list or dict is changed -/
theorem ext_write {n : Nat} {a : Addr} {o o0 : HO} (r : RepH G K μ H h) (q : μ.m[n]? = some a) (h0 : H a = some o0) (i0 : imm o0 = false) : Ext μ H μ (upd H a o) := by
  have ne : ∀ b u, H b = some u → imm u = true → b ≠ a := fun b u e i z => by
    subst z
    rw [e] at h0
    cases h0
    rw [i] at i0
    cases i0
  refine ⟨⟨[], [], mu_self, (fun _ h => by cases h), fun _ h => by cases h⟩, fun b u e n => by rw [upd_ne (fun z => n (by rw [z]; exact List.mem_of_getElem? q))]; exact e, dom_upd, fun b u e i => by rw [upd_ne (ne b u e i)]; exact e, fun b u z e => ?_⟩
  rw [upd_ne (fun x => r.zm b z (by rw [x]; exact List.mem_of_getElem? q))]
  exact e
theorem RepH.write {n : Nat} {a : Addr} {o o0 : HO} {mo : MO} (r : RepH G K μ H h) (q : μ.m[n]? = some a) (h0 : H a = some o0) (i0 : imm o0 = false) (s : IsM G K μ H mo o) : RepH G K μ (upd H a o) (h.set n mo) := by
  have e : Ext μ H μ (upd H a o) := ext_write r q h0 i0
  refine ⟨by rw [List.length_set]; exact r.len, r.nd, r.zm, fun b z => let ⟨u, eu⟩ := r.zd b z; ⟨u, e.zk b u z eu⟩, fun k b m q1 q2 => ?_⟩
  by_cases hk : n = k
  · subst hk
    rw [q] at q1
    cases q1
    have hl : n < h.length := by rw [← r.len]; exact (List.getElem?_eq_some_iff.mp q).1
    rw [List.getElem?_set_self hl] at q2
    cases q2
    exact ⟨o, upd_same, s.mono e⟩
  · rw [List.getElem?_set_ne hk] at q2
    obtain ⟨u, eu, su⟩ := r.at_ k b m q1 q2
    have nb : b ≠ a := fun z => by
      subst z
      exact hk ((List.getElem?_inj (List.getElem?_eq_some_iff.mp q).1 r.nd).mp (by rw [q, q1]))
    exact ⟨u, by rw [upd_ne nb]; exact eu, su.mono e⟩
/-- a thing that stands apart is changed -/
theorem extI_side {p : Addr} {o o0 : HO} (hz : p ∉ μ.z) (h0 : H p = some o0) (i0 : imm o0 = false) : ExtI μ H μ (upd H p o) := ⟨⟨[], [], mu_self⟩, fun b u e i => by
  have nb : b ≠ p := fun z => by
    subst z
    rw [e] at h0
    cases h0
    rw [i] at i0
    cases i0
  rw [upd_ne nb]
  exact e, fun b u z e => by rw [upd_ne (fun x => hz (by rw [← x]; exact z))]; exact e⟩
theorem RepH.side {p : Addr} {o o0 : HO} (r : RepH G K μ H h) (hp : p ∉ μ.m) (hz : p ∉ μ.z) (h0 : H p = some o0) (i0 : imm o0 = false) : RepH G K μ (upd H p o) h :=
  ⟨r.len, r.nd, r.zm, fun b z => let ⟨u, eu⟩ := r.zd b z; ⟨u, (extI_side hz h0 i0).zk b u z eu⟩, fun n a mo q1 q2 => let ⟨u, e1, s⟩ := r.at_ n a mo q1 q2; ⟨u, by rw [upd_ne (fun z => hp (by rw [← z]; exact List.mem_of_getElem? q1))]; exact e1, s.monoI (extI_side hz h0 i0)⟩⟩
theorem Ext.side {p : Addr} {o : HO} (e : Ext μ1 H1 μ H) (hp : H1 p = none) : Ext μ1 H1 μ (upd H p o) :=
  ⟨e.pre, fun a u q n => by rw [upd_ne (ne_of_none q hp)]; exact e.fr a u q n, fun a q => e.dom a (dom_upd a q), fun a u q i => by rw [upd_ne (ne_of_none q hp)]; exact e.im a u q i, fun a u z q => by rw [upd_ne (ne_of_none q hp)]; exact e.zk a u z q⟩
theorem IsL.length {ts : List T} {vs : List V} (r : IsL G K μ H ts vs) : ts.length = vs.length := by
  induction ts generalizing vs with
  | nil => cases r; rfl
  | cons t ts ih => cases r with | cons a b => simp [ih b]
theorem IsL.get {ts : List T} {vs : List V} (r : IsL G K μ H ts vs) {i : Nat} {t : T} (e : ts[i]? = some t) : ∃ v, vs[i]? = some v ∧ Is G K μ H t v := by
  induction ts generalizing vs i with
  | nil => cases e
  | cons u us ih =>
    cases r with
    | cons a b =>
      cases i with
      | zero => cases e; exact ⟨_, rfl, a⟩
      | succ j => exact ih b e
theorem IsL.get' {ts : List T} {vs : List V} (r : IsL G K μ H ts vs) {i : Nat} {v : V} (e : vs[i]? = some v) : ∃ t, ts[i]? = some t ∧ Is G K μ H t v := by
  induction ts generalizing vs i with
  | nil => cases r; cases e
  | cons u us ih =>
    cases r with
    | cons a b =>
      cases i with
      | zero => cases e; exact ⟨_, rfl, a⟩
      | succ j => exact ih b e
theorem IsL.append {ts us : List T} {vs ws : List V} (r : IsL G K μ H ts vs) (s : IsL G K μ H us ws) : IsL G K μ H (ts ++ us) (vs ++ ws) := by
  induction ts generalizing vs with
  | nil => cases r; exact s
  | cons t ts ih => cases r with | cons a b => exact .cons a (ih b)
theorem IsL.one {t : T} {v : V} (r : Is G K μ H t v) : IsL G K μ H [t] [v] := .cons r .nil
theorem IsL.set {ts : List T} {vs : List V} {t : T} {v : V} (r : IsL G K μ H ts vs) (s : Is G K μ H t v) (i : Nat) : IsL G K μ H (ts.set i t) (vs.set i v) := by
  induction ts generalizing vs i with
  | nil => cases r; exact .nil
  | cons u us ih =>
    cases r with
    | cons a b =>
      cases i with
      | zero => exact .cons s b
      | succ j => exact .cons a (ih b j)
theorem IsL.take {ts : List T} {vs : List V} (r : IsL G K μ H ts vs) (n : Nat) : IsL G K μ H (ts.take n) (vs.take n) := by
  induction ts generalizing vs n with
  | nil => cases r; simp; exact .nil
  | cons u us ih =>
    cases r with
    | cons a b =>
      cases n with
      | zero => exact .nil
      | succ j => exact .cons a (ih b j)
theorem IsL.drop {ts : List T} {vs : List V} (r : IsL G K μ H ts vs) (n : Nat) : IsL G K μ H (ts.drop n) (vs.drop n) := by
  induction ts generalizing vs n with
  | nil => cases r; simp; exact .nil
  | cons u us ih =>
    cases r with
    | cons a b =>
      cases n with
      | zero => exact .cons a b
      | succ j => exact ih b j
theorem IsL.dropLast {ts : List T} {vs : List V} (r : IsL G K μ H ts vs) : IsL G K μ H ts.dropLast vs.dropLast := by
  rw [List.dropLast_eq_take, List.dropLast_eq_take, r.length]
  exact r.take _
theorem IsL.ints : ∀ {ns : List Int}, IsL G K μ H (ns.map T.int) (ns.map V.int)
  | [] => .nil
  | n :: ns => .cons (.int n) IsL.ints
theorem IsL.ints_eq : ∀ {ns : List Int} {vs : List V}, IsL G K μ H (ns.map T.int) vs → vs = ns.map V.int
  | [], _, .nil => rfl
  | n :: ns, _, .cons (.int _) b => by rw [IsL.ints_eq b]; rfl
theorem IsL.strs_eq : ∀ {ns : List Str} {vs : List V}, IsL G K μ H (ns.map T.str) vs → vs = ns.map V.str
  | [], _, .nil => rfl
  | n :: ns, _, .cons (.str _) b => by rw [IsL.strs_eq b]; rfl
theorem IsL.bls_eq : ∀ {ns : List Bool} {vs : List V}, IsL G K μ H (ns.map T.bl) vs → vs = ns.map V.bl
  | [], _, .nil => rfl
  | n :: ns, _, .cons (.bl _) b => by rw [IsL.bls_eq b]; rfl
end
end M
namespace M
open PySem L2

/-! ### outcomes -/
def Out.bind {α β : Type} (o : Out α) (k : α → AH → Out β) : Out β := match o with
  | .ok a h => k a h | .ex x h => .ex x h | .bad => .bad
def Out.of {α : Type} : Option (α × AH) → Out α
  | some (a, h) => .ok a h | none => .bad
abbrev EM := Env → AH → Out T
abbrev EB := Env → AH → Out Bool
abbrev EL := Env → AH → Out (List T)
abbrev SM := Env → AH → OutS
abbrev WH := Value → Option Addr → Hp → Prop
section
variable (G : CT) (K : PySem.W.Frag)
def Want {α : Type} (W : WH) (o : Out α) (μ : Mu) (H : Hp) (R : α → AH → Mu → Hp → Prop) : Prop := match o with
  | .ok a h => ∀ μ' H', Ext μ H μ' H' → RepH G K μ' H' h → R a h μ' H'
  | .ex x h => ∀ μ' H' cls d, Ext μ H μ' H' → RepH G K μ' H' h → IsX G K μ' H' x cls d → W cls d H'
  | .bad => False
def wT (Q : VK) : T → AH → Mu → Hp → Prop := fun t _ μ H => ∀ v, Is G K μ H t v → Q v H
def wB (Q : Bool → Hp → Prop) : Bool → AH → Mu → Hp → Prop := fun b _ _ H => Q b H
def wL (Q : List V → Hp → Prop) : List T → AH → Mu → Hp → Prop := fun ts _ μ H => ∀ vs, IsL G K μ H ts vs → Q vs H
/-- the readings -/
def teOf (W : WX) (m : EM) : TE := fun σ H Q => ∃ μ env h, RepH G K μ H h ∧ RepE G K μ H σ env ∧ Want G K (fun c d H' => W c d σ H') (m env h) μ H (wT G K Q)
def ttOf (W : WX) (m : EB) : TT := fun σ H Q => ∃ μ env h, RepH G K μ H h ∧ RepE G K μ H σ env ∧ Want G K (fun c d H' => W c d σ H') (m env h) μ H (wB Q)
def taOf (W : WX) (m : EL) : TA := fun σ H Q => ∃ μ env h, RepH G K μ H h ∧ RepE G K μ H σ env ∧ Want G K (fun c d H' => W c d σ H') (m env h) μ H (wL G K Q)
end
def PEm (G : CT) (X : Cx) (W : WX) (e : Expr) (m : EM) : Prop := PE X e (teOf G X.K W m)
def PTm (G : CT) (X : Cx) (W : WX) (e : Expr) (m : EB) : Prop := PT X e (ttOf G X.K W m)
def PWm (G : CT) (X : Cx) (W : WX) (e : Expr) (m : EB) : Prop := PW X e (ttOf G X.K W m)
def PAm (G : CT) (X : Cx) (W : WX) (es : List Expr) (m : EL) : Prop := PA X es (taOf G X.K W m)
theorem PE.imp {X : Cx} {e : Expr} {t t' : TE} (h : PE X e t) (i : ∀ σ H Q, t' σ H Q → t σ H Q) : PE X e t' := ⟨fun pins s σ H Q I q => h.run pins s σ H Q I (i σ H Q q)⟩
theorem PT.imp {X : Cx} {e : Expr} {t t' : TT} (h : PT X e t) (i : ∀ σ H Q, t' σ H Q → t σ H Q) : PT X e t' := ⟨fun pins s σ H Q I q => h.run pins s σ H Q I (i σ H Q q)⟩
theorem PW.imp {X : Cx} {e : Expr} {t t' : TT} (h : PW X e t) (i : ∀ σ H Q, t' σ H Q → t σ H Q) : PW X e t' := ⟨fun wh pins s σ H Q I q => h.run wh pins s σ H Q I (i σ H Q q)⟩
theorem PA.imp {X : Cx} {es : List Expr} {t t' : TA} (h : PA X es t) (i : ∀ σ H Q, t' σ H Q → t σ H Q) : PA X es t' := ⟨fun pos pins s σ H Q I q => h.run pos pins s σ H Q I (i σ H Q q)⟩

section
variable {G : CT} {K : PySem.W.Frag} {α β : Type} {W : WH} {μ μ1 : Mu} {H H1 : Hp} {R R' : α → AH → Mu → Hp → Prop}
theorem Want.up {o : Out α} (e : Ext μ H μ1 H1) (w : Want G K W o μ H R) : Want G K W o μ1 H1 R := by
  cases o with
  | ok a h => exact fun μ' H' e' r => w μ' H' (e.trans e') r
  | ex x h => exact fun μ' H' c d e' r i => w μ' H' c d (e.trans e') r i
  | bad => exact w
theorem Want.mp {o : Out α} (w : Want G K W o μ H R) (k : ∀ a h μ' H', o = .ok a h → Ext μ H μ' H' → RepH G K μ' H' h → R a h μ' H' → R' a h μ' H') : Want G K W o μ H R' := by
  cases o with
  | ok a h => exact fun μ' H' e' r => k a h μ' H' rfl e' r (w μ' H' e' r)
  | ex x h => exact w
  | bad => exact w
theorem Want.bind {o : Out α} {k : α → AH → Out β} {S : β → AH → Mu → Hp → Prop} (w : Want G K W (o.bind k) μ H S) : Want G K W o μ H (fun a h μ' H' => Ext μ H μ' H' ∧ RepH G K μ' H' h ∧ Want G K W (k a h) μ' H' S) := by
  cases o with
  | ok a h => exact fun μ' H' e' r => ⟨e', r, Want.up (o := k a h) e' w⟩
  | ex x h => exact w
  | bad => exact w
theorem Want.now {a : α} {h : AH} (r : RepH G K μ H h) (w : Want G K W (.ok a h) μ H R) : R a h μ H := w μ H Ext.refl r
end

section
variable {G : CT} {X : Cx} {W : WX}
/-! ### names, constants -/
def mVar (i : Nat) : EM := fun env h => match env[i]? with
  | some (some t) => .ok t h | _ => .bad
def mC (t : T) : EM := fun _ h => .ok t h
theorem pm_var (i : Nat) {x : Str} {pos : Pos} (hN : X.N[i]? = some x := by rfl) (hv : Vis X.env.scope x := by first | exact Or.inl rfl | exact Or.inr (Or.inl rfl) | exact Or.inr (Or.inr rfl)) (hd : (x == ("__debug__" : Str)) = false := by decide)
    (hcd : (x == ("__classdict__" : Str)) = false := by decide) : PEm G X W (.Name x pos) (mVar i) := by
  refine PE.imp (pe_var hN hv hd hcd) fun σ H Q q => ?_
  obtain ⟨μ, env, h, r, re, w⟩ := q
  unfold mVar at w
  cases e : env[i]? with
  | none => rw [e] at w; exact w.elim
  | some o =>
    cases o with
    | none => rw [e] at w; exact w.elim
    | some t =>
      rw [e] at w
      obtain ⟨v, a, b⟩ := re.at_ i t e
      exact ⟨v, a, Want.now r w v b⟩
theorem pm_c {e : Expr} {t : T} {v : V} (he : PE X e (tC v)) (hi : ∀ μ H, Is G X.K μ H t v) : PEm G X W e (mC t) := by
  refine PE.imp he fun σ H Q q => ?_
  obtain ⟨μ, env, h, r, re, w⟩ := q
  exact Want.now (R := wT G X.K Q) r w v (hi _ _)
theorem pm_int {i : Int} {j : Nat} {pos : Pos} : PEm G X W (.Constant (.int i) j pos) (mC (.int i)) := pm_c pe_int fun _ _ => .int i
theorem pm_bl {b : Bool} {j : Nat} {pos : Pos} : PEm G X W (.Constant (.bool b) j pos) (mC (.bl b)) := pm_c pe_bl fun _ _ => .bl b
theorem pm_non {j : Nat} {pos : Pos} : PEm G X W (.Constant .none j pos) (mC .non) := pm_c pe_non fun _ _ => .non
theorem pm_str {x : Str} {j : Nat} {pos : Pos} : PEm G X W (.Constant (.str x) j pos) (mC (.str x)) := pm_c pe_str fun _ _ => .str x
/-- a module's constant -/
theorem pm_glob {x : Str} {t : T} {v : V} {u : Value} {pos : Pos} (hm : X.mg x = some u) (rv : RelV v u) (hi : ∀ μ H, Is G X.K μ H t v) (hg : Gl X x := by rfl) (hd : (x == ("__debug__" : Str)) = false := by decide) : PEm G X W (.Name x pos) (mC t) :=
  pm_c (pe_glob hg hm rv hd) hi

/-! ### argument lists, displays -/
def mNil : EL := fun _ h => .ok [] h
def mCons (m : EM) (r : EL) : EL := fun env h => (m env h).bind fun t h1 => (r env h1).bind fun ts h2 => .ok (t :: ts) h2
def mTup (m : EL) : EM := fun env h => (m env h).bind fun ts h1 => if ts.length ≤ sizeLine then .ok (.tup ts) h1 else .bad
def mLst (m : EL) : EM := fun env h => (m env h).bind fun ts h1 => if ts.length ≤ sizeLine then .ok (.obj h1.length) (h1 ++ [.lst ts]) else .bad
theorem pam_nil : PAm G X W [] mNil := PA.imp pa_nil fun σ H Q q => by
  obtain ⟨μ, env, h, r, re, w⟩ := q
  exact Want.now (R := wL G X.K Q) r w [] .nil
theorem pam_cons {e : Expr} {es : List Expr} {m : EM} {mr : EL} (ha : PEm G X W e m) (hr : PAm G X W es mr) (hs : starEach (e :: es) X.env = (false, eval e X.env) :: starEach es X.env := by rfl) : PAm G X W (e :: es) (mCons m mr) :=
  PA.imp (pa_cons ha hr hs) fun σ H Q q => by
    obtain ⟨μ, env, h, r, re, w⟩ := q
    refine ⟨μ, env, h, r, re, (Want.bind w).mp fun t h1 μ1 H1 _ e1 r1 ⟨_, _, w1⟩ v iv => ?_⟩
    refine ⟨μ1, env, h1, r1, re.mono e1, (Want.bind w1).mp fun ts h2 μ2 H2 _ e2 r2 ⟨_, _, w2⟩ vs ivs => ?_⟩
    exact Want.now (R := wL G X.K Q) r2 w2 _ (.cons (iv.mono e2) ivs)
theorem pm_tup {es : List Expr} {m : EL} {x1 : Nat} {pos : Pos} (ha : PAm G X W es m) : PEm G X W (.Tuple es x1 pos) (mTup m) :=
  PE.imp (pe_tup ha) fun σ H Q q => by
    obtain ⟨μ, env, h, r, re, w⟩ := q
    refine ⟨μ, env, h, r, re, (Want.bind w).mp fun ts h1 μ1 H1 _ e1 r1 ⟨_, _, w1⟩ vs ivs => ?_⟩
    by_cases hl : ts.length ≤ sizeLine
    · rw [if_pos hl] at w1
      refine ⟨by rw [← ivs.length]; exact hl, fun p hp => ?_⟩
      exact w1 μ1 _ (ext_new hp) (r1.new hp) _ (.tup (.inl (.inl upd_same)) (ivs.mono (ext_new hp)))
    · rw [if_neg hl] at w1
      exact w1.elim
theorem pm_lst {es : List Expr} {m : EL} {pos : Pos} (ha : PAm G X W es m) : PEm G X W (.List es pos) (mLst m) :=
  PE.imp (pe_lst ha) fun σ H Q q => by
    obtain ⟨μ, env, h, r, re, w⟩ := q
    refine ⟨μ, env, h, r, re, (Want.bind w).mp fun ts h1 μ1 H1 _ e1 r1 ⟨_, _, w1⟩ vs ivs => ?_⟩
    by_cases hl : ts.length ≤ sizeLine
    · rw [if_pos hl] at w1
      refine ⟨by rw [← ivs.length]; exact hl, fun p hp => ?_⟩
      have ha := r1.alloc hp (o := .lst vs) (.lst ivs)
      refine w1 (μ1.add p) _ (ext_alloc hp) ha _ (.obj (len_alloc r1))
    · rw [if_neg hl] at w1
      exact w1.elim

/-- a list that is never changed -/
def mLv (m : EL) : EM := fun env h => (m env h).bind fun ts h1 => if ts.length ≤ sizeLine then .ok (.lv ts) h1 else .bad
theorem pm_lv {es : List Expr} {m : EL} {pos : Pos} (ha : PAm G X W es m) : PEm G X W (.List es pos) (mLv m) :=
  PE.imp (pe_lst ha) fun σ H Q q => by
    obtain ⟨μ, env, h, r, re, w⟩ := q
    refine ⟨μ, env, h, r, re, (Want.bind w).mp fun ts h1 μ1 H1 _ e1 r1 ⟨_, _, w1⟩ vs ivs => ?_⟩
    by_cases hl : ts.length ≤ sizeLine
    · rw [if_pos hl] at w1
      exact ⟨by rw [← ivs.length]; exact hl, fun p hp => w1 _ _ (ext_allocZ hp) (r1.allocZ hp) _ (.lvZ hp ivs)⟩
    · rw [if_neg hl] at w1
      exact w1.elim
/-! ### attributes of an instance -/
def mFld (m : EM) (c i : Nat) : EM := fun env h => (m env h).bind fun t h1 => match t with
  | .ins c' ts => if c' = c then match ts[i]? with
    | some u => .ok u h1
    | none => .bad
    else .bad
  | _ => .bad
theorem lookup_zip {f : Str} : ∀ {ks : List Str} {vs : List V} {i : Nat} {v : V}, ks.Nodup → ks[i]? = some f → vs[i]? = some v → (ks.zip vs).lookup f = some v
  | [], _, _, _, _, h, _ => by cases h
  | _ :: _, [], _, _, _, _, h => by cases h
  | k :: ks, w :: vs, 0, v, _, h1, h2 => by
    cases h1
    cases h2
    show ((f, w) :: ks.zip vs).lookup f = some w
    rw [List.lookup_cons, beq_self_eq_true]
  | k :: ks, w :: vs, i + 1, v, nd, h1, h2 => by
    have nk : f ≠ k := fun z => by
      subst z
      exact (List.nodup_cons.mp nd).1 (List.mem_of_getElem? (show ks[i]? = some f from h1))
    show ((k, w) :: ks.zip vs).lookup f = some v
    rw [List.lookup_cons, show (f == k) = false from beq_eq_false_iff_ne.mpr nk]
    exact lookup_zip (List.nodup_cons.mp nd).2 h1 h2
/-- what the text says of a class: its fields are plain -/
structure ClOk (G : CT) (K : PySem.W.Frag) (c : Nat) : Prop where
  cls : Cls K (G.cl c)
  nd : (FL c).Nodup
  no : ∀ f ∈ FL c, NoAttr K (G.cl c) f
theorem pm_fld {e : Expr} {m : EM} {f : Str} {pos : Pos} (c i : Nat) (C : ClOk G X.K c) (hf : (FL c)[i]? = some f) (he : PEm G X W e m) (hb : attributeBase e f X.env (eval e X.env) = eval e X.env := by rfl) : PEm G X W (.Attribute e f pos) (mFld m c i) :=
  PE.imp (pe_fld he hb) fun σ H Q q => by
    obtain ⟨μ, env, h, r, re, w⟩ := q
    refine ⟨μ, env, h, r, re, (Want.bind w).mp fun t h1 μ1 H1 _ e1 r1 ⟨_, _, w1⟩ v iv => ?_⟩
    cases iv with
    | @ins a dx c' ts vs s n l =>
      dsimp only at w1
      by_cases hc : c' = c
      · subst hc
        rw [if_pos rfl] at w1
        cases hu : ts[i]? with
        | none => rw [hu] at w1; exact w1.elim
        | some u =>
          rw [hu] at w1
          obtain ⟨y, hy, iy⟩ := l.get hu
          exact ⟨a, _, dx, _, y, rfl, s, C.cls, C.no f (List.mem_of_getElem? hf), lookup_zip C.nd hf hy, Want.now r1 w1 y iy⟩
      · rw [if_neg hc] at w1
        exact w1.elim
    | _ => exact w1.elim

/-! ### operators by values -/
/-- f, over trees, is what r asks -/
def OpM (G : CT) (K : PySem.W.Frag) (r : R2) (f : T → T → AH → Option (T × AH)) : Prop := ∀ {μ : Mu} {H : Hp} {h : AH} {t u : T} {v w : V} {Q : VK} {a : T} {h' : AH}, RepH G K μ H h → Is G K μ H t v → Is G K μ H u w → f t u h = some (a, h') →
  (∀ μ' H' z, Ext μ H μ' H' → RepH G K μ' H' h' → Is G K μ' H' a z → Q z H') → r v w H Q
def mOp (f : T → T → AH → Option (T × AH)) (m n : EM) : EM := fun env h => (m env h).bind fun t h1 => (n env h1).bind fun u h2 => Out.of (f t u h2)
theorem te_op {r : R2} {f : T → T → AH → Option (T × AH)} {m n : EM} (hf : OpM G X.K r f) : ∀ σ H Q, teOf G X.K W (mOp f m n) σ H Q → tOp r (teOf G X.K W m) (teOf G X.K W n) σ H Q := fun σ H Q q => by
  obtain ⟨μ, env, h, r, re, w⟩ := q
  refine ⟨μ, env, h, r, re, (Want.bind w).mp fun t h1 μ1 H1 _ e1 r1 ⟨_, _, w1⟩ v iv => ?_⟩
  refine ⟨μ1, env, h1, r1, re.mono e1, (Want.bind w1).mp fun u h2 μ2 H2 _ e2 r2 ⟨_, _, w2⟩ y iy => ?_⟩
  cases hh : f t u h2 with
  | none => rw [hh] at w2; exact w2.elim
  | some p =>
    obtain ⟨a, h3⟩ := p
    rw [hh] at w2
    exact hf r2 (iv.mono e2) iy hh fun μ' H' z e3 r3 i3 => w2 μ' H' e3 r3 z i3
theorem pm_op {op : Operator} {r : R2} {f : T → T → AH → Option (T × AH)} {a b : Expr} {m n : EM} {pos : Pos} (ho : OpR X (binaryOp op) r) (hf : OpM G X.K r f) (ha : PEm G X W a m) (hb : PEm G X W b n) : PEm G X W (.BinOp a op b pos) (mOp f m n) :=
  PE.imp (pe_op ho ha hb) (te_op hf)
end
end M
namespace M
open PySem L2
section
variable {G : CT} {X : Cx} {W : WX} {K : PySem.W.Frag}

/-- a list: numbered or kept for good -/
def lsT (h : AH) : T → Option (List T)
  | .lv ts => some ts
  | .obj n => match h[n]? with
    | some (.lst ts) => some ts
    | _ => none
  | _ => none
theorem lsT_ok {μ : Mu} {H : Hp} {h : AH} (r : RepH G K μ H h) {t : T} {v : V} {ts : List T} (i : Is G K μ H t v) (e : lsT h t = some ts) : ∃ a vs, v = .ref a ∧ H a = some (.lst vs) ∧ IsL G K μ H ts vs := by
  cases i with
  | @lv a us vs z s l => cases e; exact ⟨a, vs, rfl, s, l⟩
  | @obj n a s =>
    dsimp only [lsT] at e
    split at e
    · next us hk =>
      cases e
      obtain ⟨a', o, q1, q2, q3⟩ := r.get hk
      rw [s] at q1
      cases q1
      cases q3 with
      | lst l => exact ⟨a, _, rfl, q2, l⟩
    · cases e
  | _ => cases e
/-! ### arithmetic -/
def fAdd : T → T → AH → Option (T × AH)
  | .int i, .int j, h => some (.int (i + j), h)
  | .str x, .str y, h => if x.length + y.length ≤ sizeLine then some (.str (x ++ y), h) else none
  | .tup xs, .tup ys, h => if xs.length + ys.length ≤ sizeLine then some (.tup (xs ++ ys), h) else none
  | t, u, h => match lsT h t, lsT h u with
    | some xs, some ys => if xs.length + ys.length ≤ sizeLine then some (.lv (xs ++ ys), h) else none
    | _, _ => none
/-- a list + a list, which may be changed later -/
def fAddM : T → T → AH → Option (T × AH) := fun t u h => match lsT h t, lsT h u with
  | some xs, some ys => if xs.length + ys.length ≤ sizeLine then some (.obj h.length, h ++ [.lst (xs ++ ys)]) else none
  | _, _ => none
def rStrAdd : R2 := fun x y H Q => ∃ i j, x = .str i ∧ y = .str j ∧ i.length + j.length ≤ sizeLine ∧ Q (.str (i ++ j)) H
def rAddM (K : PySem.W.Frag) : R2 := fun x y H Q => rI0 (fun i j => .int (i + j)) x y H Q ∨ (rStrAdd x y H Q ∨ (rCatA K x y H Q ∨ rCat x y H Q))
theorem op_addM : OpR X (binaryOp .Add) (rAddM X.K) := OpR.or op_add (OpR.or (r := rStrAdd) op_add_str (OpR.or op_catA op_cat))
theorem opm_addM : OpM G K (rAddM K) fAddM := fun {μ H h t u v w Q z h'} rh i j e k => by
  unfold fAddM at e
  split at e
  · next xs ys h1 h2 =>
    split at e
    · next hl =>
      cases e
      obtain ⟨a, vs, rfl, e1, l1⟩ := lsT_ok rh i h1
      obtain ⟨b, ws, rfl, e2, l2⟩ := lsT_ok rh j h2
      refine .inr (.inr (.inr ⟨a, b, _, _, rfl, rfl, e1, e2, by rw [← l1.length, ← l2.length]; exact hl, fun p hp => ?_⟩))
      exact k (μ.add p) _ _ (ext_alloc hp) (rh.alloc hp (.lst (l1.append l2))) (.obj (len_alloc rh))
    · cases e
  · cases e
theorem opm_add : OpM G K (rAddM K) fAdd := fun {μ H h t u v w Q z h'} rh i j e k => by
  have lists : ∀ {xs ys : List T}, lsT h t = some xs → lsT h u = some ys → (if xs.length + ys.length ≤ sizeLine then some (T.lv (xs ++ ys), h) else none) = some (z, h') → rAddM K v w H Q := fun {xs ys} h1 h2 e => by
    split at e
    · next hl =>
      cases e
      obtain ⟨a, vs, rfl, e1, l1⟩ := lsT_ok rh i h1
      obtain ⟨b, ws, rfl, e2, l2⟩ := lsT_ok rh j h2
      refine .inr (.inr (.inr ⟨a, b, _, _, rfl, rfl, e1, e2, by rw [← l1.length, ← l2.length]; exact hl, fun p hp => ?_⟩))
      exact k _ _ _ (ext_allocZ hp) (rh.allocZ hp) (.lvZ hp (l1.append l2))
    · cases e
  unfold fAdd at e
  split at e
  · cases e
    cases i
    cases j
    exact .inl ⟨_, _, rfl, rfl, k μ H _ Ext.refl rh (.int _)⟩
  · split at e
    · next hl =>
      cases e
      cases i
      cases j
      exact .inr (.inl ⟨_, _, rfl, rfl, hl, k μ H _ Ext.refl rh (.str _)⟩)
    · cases e
  · split at e
    · next hl =>
      cases e
      cases i with
      | @tup a xs vs s l =>
        cases j with
        | @tup b ys ws s' l' =>
          refine .inr (.inr (.inl ⟨a, b, vs, ws, rfl, rfl, s, s', by rw [← l.length, ← l'.length]; exact hl, fun e => ?_, fun _ e => ?_, fun _ _ p hp => ?_⟩))
          · subst e
            cases l
            exact k μ H _ Ext.refl rh (.tup s' l')
          · subst e
            cases l'
            rw [List.append_nil] at k
            exact k μ H _ Ext.refl rh (.tup s l)
          · exact k μ _ _ (ext_new hp) (rh.new hp) (.tup (.inl (.inl upd_same)) ((l.append l').mono (ext_new hp)))
    · cases e
  · split at e
    · next xs ys h1 h2 => exact lists h1 h2 e
    · cases e
theorem pm_addM {a b : Expr} {m n : EM} {pos : Pos} (ha : PEm G X W a m) (hb : PEm G X W b n) : PEm G X W (.BinOp a .Add b pos) (mOp fAddM m n) := pm_op op_addM opm_addM ha hb
theorem pm_add {a b : Expr} {m n : EM} {pos : Pos} (ha : PEm G X W a m) (hb : PEm G X W b n) : PEm G X W (.BinOp a .Add b pos) (mOp fAdd m n) := pm_op op_addM opm_add ha hb

def fInt (C : Int → Int → Bool) (g : Int → Int → Int) : T → T → AH → Option (T × AH)
  | .int i, .int j, h => if C i j then some (.int (g i j), h) else none
  | _, _, _ => none
theorem opm_int {P : Int → Int → Prop} {C : Int → Int → Bool} {g : Int → Int → Int} (hC : ∀ i j, C i j = true → P i j) : OpM G K (rI P fun i j => .int (g i j)) (fInt C g) := fun {μ H h t u v w Q z h'} rh i j e k => by
  cases i with
  | int a =>
    cases j with
    | int b =>
      dsimp only [fInt] at e
      split at e
      · next hc =>
        cases e
        exact ⟨a, b, rfl, rfl, hC _ _ hc, k μ H _ Ext.refl rh (.int _)⟩
      · cases e
    | _ => cases e
  | _ => cases e
/-- a - b -/
def fSub : T → T → AH → Option (T × AH)
  | .int i, .int j, h => some (.int (i - j), h)
  | _, _, _ => none
theorem opm_sub : OpM G K (rI0 fun i j => .int (i - j)) fSub := fun {μ H h t u v w Q z h'} rh i j e k => by
  cases i with
  | int a =>
    cases j with
    | int b =>
      cases e
      exact ⟨a, b, rfl, rfl, k μ H _ Ext.refl rh (.int _)⟩
    | _ => cases e
  | _ => cases e
theorem pm_sub {a b : Expr} {m n : EM} {pos : Pos} (ha : PEm G X W a m) (hb : PEm G X W b n) : PEm G X W (.BinOp a .Sub b pos) (mOp fSub m n) := pm_op op_sub opm_sub ha hb
/-- a * b of ints: together below 2^27 bits -/
def cMul (i j : Int) : Bool := decide (Builtin.Int.intBits i + Builtin.Int.intBits j ≤ 134217728)
def fMul : T → T → AH → Option (T × AH) := fInt cMul fun i j => i * j
theorem pm_mul {a b : Expr} {m n : EM} {pos : Pos} (ha : PEm G X W a m) (hb : PEm G X W b n) : PEm G X W (.BinOp a .Mult b pos) (mOp fMul m n) :=
  pm_op op_mulX (opm_int fun i j h => by have q := of_decide_eq_true h; show (_ : Int) + _ ≤ 134217728; omega) ha hb
/-- a % b, b > 0 -/
def fMod : T → T → AH → Option (T × AH) := fInt (fun _ j => decide (0 < j)) fun i j => i % j
theorem pm_mod {a b : Expr} {m n : EM} {pos : Pos} (ha : PEm G X W a m) (hb : PEm G X W b n) : PEm G X W (.BinOp a .Mod b pos) (mOp fMod m n) :=
  pm_op op_mod (opm_int fun i j h => of_decide_eq_true h) ha hb
/-- a // b, 0 < b < 2^30 -/
def fDiv : T → T → AH → Option (T × AH) := fInt (fun _ j => decide (0 < j) && decide (j < 1073741824)) fun i j => i / j
theorem pm_div {a b : Expr} {m n : EM} {pos : Pos} (ha : PEm G X W a m) (hb : PEm G X W b n) : PEm G X W (.BinOp a .FloorDiv b pos) (mOp fDiv m n) :=
  pm_op op_fdiv (opm_int fun i j h => ⟨of_decide_eq_true (Bool.and_eq_true_iff.mp h).1, of_decide_eq_true (Bool.and_eq_true_iff.mp h).2⟩) ha hb
/-- a ** b, small -/
def fPow : T → T → AH → Option (T × AH) := fInt (fun i j => decide (0 ≤ j) && (decide (j ≤ 1000000) && decide (i.natAbs < 2 ^ 64))) fun i j => i ^ j.toNat
theorem pm_pow {a b : Expr} {m n : EM} {pos : Pos} (ha : PEm G X W a m) (hb : PEm G X W b n) : PEm G X W (.BinOp a .Pow b pos) (mOp fPow m n) :=
  pm_op op_pow (opm_int fun i j h => by
    obtain ⟨h1, h2⟩ := Bool.and_eq_true_iff.mp h
    obtain ⟨h2, h3⟩ := Bool.and_eq_true_iff.mp h2
    exact ⟨of_decide_eq_true h1, of_decide_eq_true h2, of_decide_eq_true h3⟩) ha hb

/-! ### comparisons -/
/-- a comparison of two values, as a value; never raises, makes nothing -/
def fCmp (f : T → T → AH → Option Bool) : T → T → AH → Option (T × AH) := fun t u h => (f t u h).map fun b => (.bl b, h)
def mCmp (f : T → T → AH → Option Bool) (m n : EM) : EM := mOp (fCmp f) m n
def CmM (G : CT) (K : PySem.W.Frag) (r : R2) (f : T → T → AH → Option Bool) : Prop := ∀ {μ : Mu} {H : Hp} {h : AH} {t u : T} {v w : V} {Q : VK} {b : Bool}, RepH G K μ H h → Is G K μ H t v → Is G K μ H u w → f t u h = some b → Q (.bl b) H → r v w H Q
theorem CmM.op {r : R2} {f : T → T → AH → Option Bool} (c : CmM G K r f) : OpM G K r (fCmp f) := fun {μ H h t u v w Q z h'} rh i j e k => by
  cases q : f t u h with
  | none =>
    rw [show fCmp f t u h = (f t u h).map fun b => (T.bl b, h) from rfl, q] at e
    cases e
  | some b =>
    rw [show fCmp f t u h = (f t u h).map fun b => (T.bl b, h) from rfl, q] at e
    cases e
    exact c rh i j q (k μ H _ Ext.refl rh (.bl b))
theorem pm_cmp {op : CmpOp} {r : R2} {f : T → T → AH → Option Bool} {a b : Expr} {m n : EM} {pos : Pos} (ho : OpR X (compareOp op) r) (hf : CmM G X.K r f) (ha : PEm G X W a m) (hb : PEm G X W b n) (hm : behindInMarks op b = false) :
    PEm G X W (.Compare a [op] [b] pos) (mCmp f m n) := PE.imp (pe_cmpR ho ha hb hm) (te_op hf.op)
/-- the same as a test -/
def mCmpT (f : T → T → AH → Option Bool) (m n : EM) : EB := fun env h => (m env h).bind fun t h1 => (n env h1).bind fun u h2 => match f t u h2 with
  | some b => .ok b h2 | none => .bad
theorem ptm_cmp {op : CmpOp} {r : R2} {f : T → T → AH → Option Bool} {a b : Expr} {m n : EM} {pos : Pos} (ho : OpR X (compareOp op) r) (hf : CmM G X.K r f) (ha : PEm G X W a m) (hb : PEm G X W b n) (hm : behindInMarks op b = false) :
    PTm G X W (.Compare a [op] [b] pos) (mCmpT f m n) := PT.imp (pt_cmpR ho ha hb hm) fun σ H Q q => by
  obtain ⟨μ, env, h, r, re, w⟩ := q
  refine ⟨μ, env, h, r, re, (Want.bind w).mp fun t h1 μ1 H1 _ e1 r1 ⟨_, _, w1⟩ v iv => ?_⟩
  refine ⟨μ1, env, h1, r1, re.mono e1, (Want.bind w1).mp fun u h2 μ2 H2 _ e2 r2 ⟨_, _, w2⟩ y iy => ?_⟩
  cases hh : f t u h2 with
  | none => rw [hh] at w2; exact w2.elim
  | some p =>
    rw [hh] at w2
    exact hf r2 (iv.mono e2) iy hh ⟨p, rfl, Want.now r2 w2⟩
def fIntB (g : Int → Int → Bool) : T → T → AH → Option Bool
  | .int i, .int j, _ => some (g i j)
  | _, _, _ => none
theorem cmm_int {g : Int → Int → Bool} : CmM G K (rI0 fun i j => .bl (g i j)) (fIntB g) := fun {μ H h t u v w Q b} rh i j e k => by
  cases i with
  | int a =>
    cases j with
    | int c =>
      cases e
      exact ⟨a, c, rfl, rfl, k⟩
    | _ => cases e
  | _ => cases e
abbrev fLt := fIntB fun i j => decide (i < j)
abbrev fLe := fIntB fun i j => decide (i ≤ j)
abbrev fGt := fIntB fun i j => decide (j < i)
abbrev fGe := fIntB fun i j => decide (j ≤ i)
/-- x is None, is not None -/
def fIsN (p : Bool) : T → T → AH → Option Bool
  | .non, .non, _ => some p
  | .raw _, _, _ => none
  | _, .non, _ => some (!p)
  | _, _, _ => none
theorem isN_of {μ : Mu} {H : Hp} {t : T} {v : V} (i : Is G K μ H t v) (h : ∀ z, t ≠ .raw z) : decide (v = .non) = (match t with | .non => true | _ => false) := by
  cases i with
  | raw => exact (h _ rfl).elim
  | _ => first | rfl | exact decide_eq_false (fun z => nomatch z)
theorem cmm_isN : CmM G K (fun x y H Q => y = .non ∧ Q (.bl (decide (x = .non))) H) (fIsN true) := fun {μ H h t u v w Q b} rh i j e k => by
  cases j with
  | non =>
    refine ⟨rfl, ?_⟩
    cases i with
    | raw z => cases e
    | non => cases e; exact k
    | _ => cases e; first | exact k | (rw [decide_eq_false (fun z => nomatch z)]; exact k)
  | _ => cases i <;> cases e
theorem cmm_notN : CmM G K (fun x y H Q => y = .non ∧ Q (.bl (!decide (x = .non))) H) (fIsN false) := fun {μ H h t u v w Q b} rh i j e k => by
  cases j with
  | non =>
    refine ⟨rfl, ?_⟩
    cases i with
    | raw z => cases e
    | non => cases e; exact k
    | _ => cases e; first | exact k | (rw [decide_eq_false (fun z => nomatch z)]; exact k)
  | _ => cases i <;> cases e
end
end M
namespace M
open PySem L2

/-! ### trees as data -/
/-- all of a list, or none -/
def allO {α β : Type} (f : α → Option β) : List α → Option (List β)
  | [] => some []
  | a :: r => match f a with
    | none => none
    | some b => match allO f r with
      | none => none
      | some bs => some (b :: bs)
def strK (x : Str) : Bool := x.cps.toList.all (· < 0x110000)
theorem strK_eq {x : Str} : strK x = PyData.strOk x := by
  unfold strK PyData.strOk
  rw [Array.all_toList]
def pd (h : AH) : Nat → T → Option PyData
  | 0, _ => none
  | n + 1, t => match t with
    | .non => some .none
    | .bl b => some (.bool b)
    | .int i => some (.int i)
    | .str x => if strK x then some (.str x) else none
    | .tup ts => (allO (pd h n) ts).map .tuple
    | .lv ts => (allO (pd h n) ts).map .list
    | .obj k => match h[k]? with
      | some (.lst ts) => (allO (pd h n) ts).map .list
      | _ => none
    | _ => none
section
variable {G : CT} {X : Cx} {W : WX} {K : PySem.W.Frag} {μ : Mu} {H : Hp} {h : AH}
theorem pd_all (n : Nat) (ih : ∀ (t : T) (v : V) (d : PyData), Is G K μ H t v → pd h n t = some d → Dp K H v d) : ∀ (ts : List T) (vs : List V) (ds : List PyData), IsL G K μ H ts vs → allO (pd h n) ts = some ds → DpAll K H vs ds
  | [], _, _, .nil, e => by cases e; exact .nil
  | t :: ts, _, _, .cons a b, e => by
    unfold allO at e
    cases q : pd h n t with
    | none => rw [q] at e; cases e
    | some d =>
      rw [q] at e
      dsimp only at e
      cases q2 : allO (pd h n) ts with
      | none => rw [q2] at e; cases e
      | some ds =>
        rw [q2] at e
        cases e
        exact .cons (ih _ _ _ a q) (pd_all n ih _ _ _ b q2)
theorem pd_dp (r : RepH G K μ H h) : ∀ (n : Nat) (t : T) (v : V) (d : PyData), Is G K μ H t v → pd h n t = some d → Dp K H v d
  | 0, _, _, _, _, e => by cases e
  | n + 1, t, v, d, i, e => by
    have ih := pd_dp r n
    cases i with
    | non => cases e; exact .non
    | bl b => cases e; exact .bl b
    | int b => cases e; exact .int b
    | str x =>
      unfold pd at e
      dsimp only at e
      split at e
      · cases e; exact .str x
      · cases e
    | @tup a ts vs s l =>
      unfold pd at e
      dsimp only at e
      cases q : allO (pd h n) ts with
      | none => rw [q] at e; cases e
      | some ds =>
        rw [q] at e
        cases e
        exact .tup s (pd_all n ih _ _ _ l q)
    | @lv a ts vs z s l =>
      unfold pd at e
      dsimp only at e
      cases q : allO (pd h n) ts with
      | none => rw [q] at e; cases e
      | some ds =>
        rw [q] at e
        cases e
        exact .lst (SqL.of s) (pd_all n ih _ _ _ l q)
    | @obj k a s =>
      unfold pd at e
      dsimp only at e
      split at e
      · next ts hk =>
        obtain ⟨a', o, q1, q2, q3⟩ := r.get hk
        rw [s] at q1
        cases q1
        cases q3 with
        | lst l =>
          cases q : allO (pd h n) ts with
          | none => rw [q] at e; cases e
          | some ds =>
            rw [q] at e
            cases e
            exact .lst (SqL.of q2) (pd_all n ih _ _ _ l q)
      · cases e
    | _ => cases e
def shp (n : Nat) (d : PyData) : Prop := d.canLay0 = true ∧ d.depth ≤ n
theorem pd_shp_all (n : Nat) (ih : ∀ (t : T) (d : PyData), pd h n t = some d → shp n d) : ∀ (ts : List T) (ds : List PyData), allO (pd h n) ts = some ds → PyData.canLayAll0 ds = true ∧ PyData.depthAll ds ≤ n
  | [], _, e => by
    cases e
    exact ⟨by simp [PyData.canLayAll0], by simp [PyData.depthAll]⟩
  | t :: ts, _, e => by
    unfold allO at e
    cases q : pd h n t with
    | none => rw [q] at e; cases e
    | some d =>
      rw [q] at e
      dsimp only at e
      cases q2 : allO (pd h n) ts with
      | none => rw [q2] at e; cases e
      | some ds =>
        rw [q2] at e
        cases e
        obtain ⟨a1, a2⟩ := ih _ _ q
        obtain ⟨b1, b2⟩ := pd_shp_all n ih _ _ q2
        refine ⟨by simp [PyData.canLayAll0, a1, b1], ?_⟩
        show max (PyData.depth d) (PyData.depthAll ds) ≤ n
        exact Nat.max_le.mpr ⟨a2, b2⟩
theorem pd_shp : ∀ (n : Nat) (t : T) (d : PyData), pd h n t = some d → shp n d
  | 0, _, _, e => by cases e
  | n + 1, t, d, e => by
    have ih := pd_shp n
    have zero : ∀ d : PyData, d.canLay0 = true → d.depth = 0 → shp (n + 1) d := fun d a b => ⟨a, by rw [b]; exact Nat.zero_le _⟩
    cases t with
    | non => cases e; exact zero _ (by simp [PyData.canLay0]) (by simp [PyData.depth])
    | bl b => cases e; exact zero _ (by simp [PyData.canLay0]) (by simp [PyData.depth])
    | int b => cases e; exact zero _ (by simp [PyData.canLay0]) (by simp [PyData.depth])
    | str x =>
      unfold pd at e
      dsimp only at e
      split at e
      · next hx => cases e; exact zero _ (by simpa [PyData.canLay0] using strK_eq ▸ hx) (by simp [PyData.depth])
      · cases e
    | tup ts =>
      unfold pd at e
      dsimp only at e
      cases q : allO (pd h n) ts with
      | none => rw [q] at e; cases e
      | some ds =>
        rw [q] at e
        cases e
        obtain ⟨b1, b2⟩ := pd_shp_all n ih _ _ q
        refine ⟨by simpa [PyData.canLay0] using b1, ?_⟩
        show PyData.depth (.tuple ds) ≤ n + 1
        simp only [PyData.depth]
        omega
    | lv ts =>
      unfold pd at e
      dsimp only at e
      cases q : allO (pd h n) ts with
      | none => rw [q] at e; cases e
      | some ds =>
        rw [q] at e
        cases e
        obtain ⟨b1, b2⟩ := pd_shp_all n ih _ _ q
        refine ⟨by simpa [PyData.canLay0] using b1, ?_⟩
        show PyData.depth (.list ds) ≤ n + 1
        simp only [PyData.depth]
        omega
    | obj k =>
      unfold pd at e
      dsimp only at e
      split at e
      · next ts hk =>
        cases q : allO (pd h n) ts with
        | none => rw [q] at e; cases e
        | some ds =>
          rw [q] at e
          cases e
          obtain ⟨b1, b2⟩ := pd_shp_all n ih _ _ q
          refine ⟨by simpa [PyData.canLay0] using b1, ?_⟩
          show PyData.depth (.list ds) ≤ n + 1
          simp only [PyData.depth]
          omega
      · cases e
    | _ => cases e
theorem shp_ok {n : Nat} {d : PyData} (s : shp n d) (hn : n ≤ 64) : SeqAt.shaped d = true := by
  unfold SeqAt.shaped
  rw [s.1, Bool.true_and]
  exact decide_eq_true (Nat.le_trans s.2 hn)
/-- == of two data, by their depth -/
def eqA (f : PyData → PyData → Bool) : List PyData → List PyData → Bool
  | [], [] => true
  | x :: xs, y :: ys => f x y && eqA f xs ys
  | _, _ => false
def eqF : Nat → PyData → PyData → Bool
  | 0, _, _ => false
  | n + 1, a, b => match a, b with
    | .none, .none => true
    | .bool a, .bool b => a == b
    | .bool a, .int j => (if a then 1 else 0) == j
    | .int i, .bool b => i == (if b then 1 else 0)
    | .int i, .int j => i == j
    | .str x, .str y => decide (x = y)
    | .list xs, .list ys => eqA (eqF n) xs ys
    | .tuple xs, .tuple ys => eqA (eqF n) xs ys
    | _, _ => false
theorem eqA_eq {n : Nat} (ih : ∀ a b : PyData, a.depth < n → eqF n a b = PyData.eqv a b) : ∀ xs ys : List PyData, PyData.depthAll xs < n → eqA (eqF n) xs ys = PyData.eqvAll xs ys
  | [], [], _ => by simp only [eqA, PyData.eqvAll]
  | [], _ :: _, _ => by simp only [eqA, PyData.eqvAll]
  | _ :: _, [], _ => by simp only [eqA, PyData.eqvAll]
  | x :: xs, y :: ys, h => by
    simp only [PyData.depthAll] at h
    simp only [eqA, PyData.eqvAll]
    rw [ih x y (by omega), eqA_eq ih xs ys (by omega)]
theorem eqF_eq : ∀ (n : Nat) (a b : PyData), a.depth < n → eqF n a b = PyData.eqv a b
  | 0, _, _, h => by omega
  | n + 1, a, b, h => by
    have ih := eqF_eq n
    cases a with
    | list xs =>
      simp only [PyData.depth] at h
      cases b <;> simp only [eqF, PyData.eqv]
      rename_i ys
      rcases n with _ | n
      · omega
      · exact eqA_eq ih xs ys (by omega)
    | tuple xs =>
      simp only [PyData.depth] at h
      cases b <;> simp only [eqF, PyData.eqv]
      rename_i ys
      rcases n with _ | n
      · omega
      · exact eqA_eq ih xs ys (by omega)
    | none => cases b <;> simp only [eqF, PyData.eqv]
    | bool x => cases b <;> simp only [eqF, PyData.eqv]
    | int x => cases b <;> simp only [eqF, PyData.eqv]
    | str x =>
      cases b <;> simp only [eqF, PyData.eqv]
      rename_i y
      exact Bool.eq_iff_iff.mpr (by rw [decide_eq_true_iff, beq_iff_eq])
    | dict x => cases b <;> simp only [eqF, PyData.eqv]
/-- == of two values -/
def fEq0 : T → T → Option Bool
  | .non, .non => some true | .non, .int _ => some false | .int _, .non => some false | .non, .bl _ => some false | .bl _, .non => some false | .non, .str _ => some false | .str _, .non => some false
  | .int i, .int j => some (decide (i = j)) | .bl i, .bl j => some (decide (i = j)) | .str i, .str j => some (decide (i = j))
  | .int _, .str _ => some false | .str _, .int _ => some false | .bl _, .str _ => some false | .str _, .bl _ => some false
  | _, _ => none
def fEq (t u : T) (h : AH) : Option Bool := match fEq0 t u with
  | some b => some b
  | none => match pd h 8 t, pd h 8 u with
    | some d, some e => some (eqF 9 d e)
    | _, _ => none
def fNe (t u : T) (h : AH) : Option Bool := (fEq t u h).map (!·)
theorem fEq0_ok {t u : T} {v w : V} {b : Bool} (i : Is G K μ H t v) (j : Is G K μ H u w) (e : fEq0 t u = some b) : scal v w = true ∧ decide (v = w) = b := by
  cases i <;> cases j <;> first
    | (cases e; done)
    | (cases e; exact ⟨rfl, rfl⟩)
    | (cases e; exact ⟨rfl, decide_eq_false (fun z => nomatch z)⟩)
    | (cases e; refine ⟨rfl, ?_⟩; simp; done)
def rEqM (K : PySem.W.Frag) : R2 := fun x y H Q => rEq x y H Q ∨ rEqD K x y H Q
def rNeM (K : PySem.W.Frag) : R2 := fun x y H Q => rNe x y H Q ∨ rNeD K x y H Q
theorem cmm_eq : CmM G K (rEqM K) fEq := fun {μ H h t u v w Q b} rh i j e k => by
  unfold fEq at e
  cases q : fEq0 t u with
  | some c =>
    rw [q] at e
    cases e
    obtain ⟨a1, a2⟩ := fEq0_ok i j q
    exact .inl ⟨a1, by rw [a2]; exact k⟩
  | none =>
    rw [q] at e
    dsimp only at e
    split at e
    · next d d' h1 h2 =>
      have sd := pd_shp _ _ _ h1
      rw [eqF_eq 9 d d' (by have := sd.2; omega)] at e
      cases e
      exact .inr ⟨d, d', pd_dp rh _ _ _ _ i h1, pd_dp rh _ _ _ _ j h2, shp_ok (pd_shp _ _ _ h1) (by decide), shp_ok (pd_shp _ _ _ h2) (by decide), k⟩
    · cases e
theorem cmm_ne : CmM G K (rNeM K) fNe := fun {μ H h t u v w Q b} rh i j e k => by
  unfold fNe fEq at e
  cases q : fEq0 t u with
  | some c =>
    rw [q] at e
    cases e
    obtain ⟨a1, a2⟩ := fEq0_ok i j q
    exact .inl ⟨a1, by rw [a2]; exact k⟩
  | none =>
    rw [q] at e
    dsimp only at e
    split at e
    · next d d' h1 h2 =>
      have sd := pd_shp _ _ _ h1
      rw [eqF_eq 9 d d' (by have := sd.2; omega)] at e
      cases e
      exact .inr ⟨d, d', pd_dp rh _ _ _ _ i h1, pd_dp rh _ _ _ _ j h2, shp_ok (pd_shp _ _ _ h1) (by decide), shp_ok (pd_shp _ _ _ h2) (by decide), k⟩
    · cases e
theorem op_eqM (hu : X.A.units + 64 < cLine) : OpR X (compareOp .Eq) (rEqM X.K) := OpR.or op_eq (op_eqD hu)
theorem op_neM (hu : X.A.units + 64 < cLine) : OpR X (compareOp .NotEq) (rNeM X.K) := OpR.or op_ne (op_neD hu)

/-! ### x in a list or tuple of flat items -/
def flatT : T → Option V
  | .non => some .non | .bl b => some (.bl b) | .int i => some (.int i) | .str x => some (.str x) | _ => none
theorem flatT_ok {t : T} {v z : V} (i : Is G K μ H t v) (e : flatT t = some z) : v = z ∧ flatV v = true := by
  cases i <;> cases e <;> exact ⟨rfl, rfl⟩
theorem flatL_ok : ∀ {ts : List T} {vs zs : List V}, IsL G K μ H ts vs → allO flatT ts = some zs → vs = zs ∧ vs.all flatV = true
  | [], _, _, .nil, e => by cases e; exact ⟨rfl, rfl⟩
  | t :: ts, _, _, .cons a b, e => by
    unfold allO at e
    cases q : flatT t with
    | none => rw [q] at e; cases e
    | some z =>
      rw [q] at e
      dsimp only at e
      cases q2 : allO flatT ts with
      | none => rw [q2] at e; cases e
      | some zs =>
        rw [q2] at e
        cases e
        obtain ⟨a1, a2⟩ := flatT_ok a q
        obtain ⟨b1, b2⟩ := flatL_ok b q2
        exact ⟨by rw [a1, b1], by rw [List.all_cons, a2, b2]; rfl⟩
/-- the items of a list or tuple -/
def itemsT (h : AH) : T → Option (List T)
  | .tup ts => some ts
  | .lv ts => some ts
  | .obj n => match h[n]? with
    | some (.lst ts) => some ts
    | _ => none
  | _ => none
theorem itemsT_ok (r : RepH G K μ H h) {t : T} {v : V} {ts : List T} (i : Is G K μ H t v) (e : itemsT h t = some ts) : ∃ p vs, v = .ref p ∧ (SqL K H p vs ∨ SqT K H p vs) ∧ IsL G K μ H ts vs := by
  cases i with
  | @tup a us vs s l => cases e; exact ⟨a, vs, rfl, .inr s, l⟩
  | @lv a us vs z s l => cases e; exact ⟨a, vs, rfl, .inl (SqL.of s), l⟩
  | @obj n a s =>
    unfold itemsT at e
    dsimp only at e
    split at e
    · next us hk =>
      cases e
      obtain ⟨a', o, q1, q2, q3⟩ := r.get hk
      rw [s] at q1
      cases q1
      cases q3 with
      | lst l => exact ⟨a, _, rfl, .inl (SqL.of q2), l⟩
    · cases e
  | _ => cases e
def fIn (neg : Bool) (t u : T) (h : AH) : Option Bool := match flatT t, itemsT h u with
  | some x, some ts => match allO flatT ts with
    | some zs => some (if neg then !inV x zs else inV x zs)
    | none => none
  | _, _ => none
theorem cmm_in {neg : Bool} : CmM G K (rIn K neg) (fIn neg) := fun {μ H h t u v w Q b} rh i j e k => by
  unfold fIn at e
  split at e
  · next x ts h1 h2 =>
    split at e
    · next zs h3 =>
      cases e
      obtain ⟨rfl, f1⟩ := flatT_ok i h1
      obtain ⟨p, vs, rfl, s, l⟩ := itemsT_ok rh j h2
      obtain ⟨rfl, f2⟩ := flatL_ok l h3
      exact ⟨p, _, rfl, s, f1, f2, k⟩
    · cases e
  · cases e

/-! ### items and slices -/
def fIx : T → T → AH → Option (T × AH)
  | t, .int i, h => match t with
    | .str z => if z.length ≤ sizeLine then match atI z.cps.toList i with
      | some c => some (.str ⟨#[c]⟩, h)
      | none => none
      else none
    | _ => match itemsT h t with
      | some ts => match atI ts i with
        | some u => some (u, h)
        | none => none
      | none => none
  | _, _, _ => none
theorem atI_of {α : Type} {xs : List α} {i : Int} {v : α} (e : atI xs i = some v) : ∃ j, ixN xs.length i = some j ∧ xs[j]? = some v := by
  unfold atI at e
  cases q : ixN xs.length i with
  | none => rw [q] at e; cases e
  | some j => rw [q] at e; exact ⟨j, rfl, e⟩
theorem atI_L {ts : List T} {vs : List V} {i : Int} {t : T} (l : IsL G K μ H ts vs) (e : atI ts i = some t) : ∃ v, atI vs i = some v ∧ Is G K μ H t v := by
  obtain ⟨j, e1, e2⟩ := atI_of e
  obtain ⟨v, q, iv⟩ := l.get e2
  refine ⟨v, ?_, iv⟩
  unfold atI
  rw [← l.length, e1]
  exact q
theorem opm_ix : OpM G K (rIx K) fIx := fun {μ H h t u v w Q z h'} rh i j e k => by
  cases j with
  | int a =>
    unfold fIx at e
    dsimp only at e
    split at e
    · next x =>
      cases i with
      | str =>
        split at e
        · next hl =>
          split at e
          · next c hc =>
            cases e
            exact .inr (.inr ⟨_, _, _, rfl, rfl, hl, hc, k μ H _ Ext.refl rh (.str _)⟩)
          · cases e
        · cases e
    · split at e
      · next ts hts =>
        split at e
        · next y hy =>
          cases e
          obtain ⟨p, vs, rfl, s, l⟩ := itemsT_ok rh i hts
          obtain ⟨v', q1, q2⟩ := atI_L l hy
          have kk := k μ H _ Ext.refl rh q2
          rcases s with s | s
          · exact .inl ⟨p, vs, a, v', rfl, rfl, s, q1, kk⟩
          · exact .inr (.inl ⟨p, vs, a, v', rfl, rfl, s, q1, kk⟩)
        · cases e
      · cases e
  | _ => (unfold fIx at e; cases e)
theorem pm_ix {a b : Expr} {m n : EM} {pos : Pos} (ha : PEm G X W a m) (hb : PEm G X W b n) (hs : PlainIx b := by intro _ _; rfl) : PEm G X W (.Subscript a b pos) (mOp fIx m n) := PE.imp (pe_ix ix_seq ha hb hs) (te_op opm_ix)

def cutT (xs : List T) (lo hi : Option Int) : List T := (xs.drop (HT.sIx xs.length 0 lo)).take (HT.sIx xs.length xs.length hi - HT.sIx xs.length 0 lo)
theorem cutT_ok {ts : List T} {vs : List V} (l : IsL G K μ H ts vs) (lo hi : Option Int) : IsL G K μ H (cutT ts lo hi) (cutV vs lo hi) := by
  unfold cutT cutV
  rw [l.length]
  exact (l.drop _).take _
/-- a bound: left out, or an int -/
def mPart (m : Option EM) (env : Env) (h : AH) : Out (Option Int) := match m with
  | none => .ok none h
  | some m => (m env h).bind fun t h1 => match t with
    | .int i => .ok (some i) h1
    | _ => .bad
def toOf (G : CT) (K : PySem.W.Frag) (W : WX) (m : Option EM) : TO := fun σ H Q => ∃ μ env h, RepH G K μ H h ∧ RepE G K μ H σ env ∧ Want G K (fun c d H' => W c d σ H') (mPart m env h) μ H (fun o _ _ H' => Q o H')
def POm (G : CT) (X : Cx) (W : WX) (e : Option Expr) (m : Option EM) : Prop := PO X e (toOf G X.K W m)
theorem PO.imp {X : Cx} {e : Option Expr} {t t' : TO} (h : PO X e t) (i : ∀ σ H Q, t' σ H Q → t σ H Q) : PO X e t' := ⟨fun pins s σ H Q I q => h.run pins s σ H Q I (i σ H Q q)⟩
theorem pom_none : POm G X W none none := PO.imp po_none fun σ H Q q => by
  obtain ⟨μ, env, h, r, re, w⟩ := q
  exact Want.now (R := fun o _ _ H' => Q o H') r w
theorem pom_some {e : Expr} {m : EM} (he : PEm G X W e m) : POm G X W (some e) (some m) := PO.imp (po_some he) fun σ H Q q => by
  obtain ⟨μ, env, h, r, re, w⟩ := q
  refine ⟨μ, env, h, r, re, (Want.bind w).mp fun t h1 μ1 H1 _ e1 r1 ⟨_, _, w1⟩ v iv => ?_⟩
  cases iv with
  | int i => exact ⟨i, rfl, Want.now (R := fun o _ _ H' => Q o H') r1 w1⟩
  | _ => exact w1.elim
def mSl (m : EM) (lo hi : Option EM) : EM := fun env h => (m env h).bind fun t h1 => (mPart lo env h1).bind fun l h2 => (mPart hi env h2).bind fun u h3 => match t with
  | .tup ts => .ok (.tup (cutT ts l u)) h3
  | t => match lsT h3 t with
    | some ts => .ok (.lv (cutT ts l u)) h3
    | none => .bad
theorem cut_whole (xs : List V) (lo hi : Option Int) (h : HT.sIx xs.length 0 lo = 0 ∧ HT.sIx xs.length xs.length hi = xs.length) : cutV xs lo hi = xs := by
  unfold cutV
  rw [h.1, h.2, List.drop_zero, Nat.sub_zero, List.take_length]
theorem pm_sl {e : Expr} {lo hi : Option Expr} {m : EM} {ml mh : Option EM} {p2 pos : Pos} (he : PEm G X W e m) (hl : POm G X W lo ml) (hh : POm G X W hi mh) : PEm G X W (.Subscript e (.Slice lo hi none p2) pos) (mSl m ml mh) :=
  PE.imp (pe_slice (SlR.or sl_tupA sl_list) he hl hh) fun σ H Q q => by
    obtain ⟨μ, env, h, r, re, w⟩ := q
    refine ⟨μ, env, h, r, re, (Want.bind w).mp fun t h1 μ1 H1 _ e1 r1 ⟨_, _, w1⟩ v iv => ?_⟩
    refine ⟨μ1, env, h1, r1, re.mono e1, (Want.bind w1).mp fun l h2 μ2 H2 _ e2 r2 ⟨_, _, w2⟩ => ?_⟩
    refine ⟨μ2, env, h2, r2, (re.mono e1).mono e2, (Want.bind w2).mp fun u h3 μ3 H3 _ e3 r3 ⟨_, _, w3⟩ => ?_⟩
    have iv3 := (iv.mono e2).mono e3
    have lists : ∀ {ts : List T}, lsT h3 t = some ts → Want G X.K (fun c d H' => W c d σ H') (.ok (.lv (cutT ts l u)) h3) μ3 H3 (wT G X.K Q) → (rSlA X.K v l u H3 Q ∨ rSlL X.K v l u H3 Q) := fun {ts} hk w3 => by
      obtain ⟨a, vs, rfl, q2, il⟩ := lsT_ok r3 iv3 hk
      exact .inr ⟨a, _, rfl, SqL.of q2, fun p hp => w3 _ _ (ext_allocZ hp) (r3.allocZ hp) _ (.lvZ hp (cutT_ok il l u))⟩
    split at w3
    · cases iv3 with
      | @tup a ts vs s il =>
        refine .inl ⟨a, vs, rfl, s, fun z => ?_, fun z p hp => ?_⟩
        · have c := cutT_ok il l u
          rw [cut_whole vs l u z] at c
          exact Want.now r3 w3 _ (.tup s c)
        · exact w3 _ _ (ext_new hp) (r3.new hp) _ (.tup (.inl (.inl upd_same)) ((cutT_ok il l u).mono (ext_new hp)))
    · split at w3
      · next ts hk => exact lists hk w3
      · exact w3.elim
end
end M
namespace M
open PySem L2
section
variable {G : CT} {X : Cx} {W : WX} {K : PySem.W.Frag} {μ : Mu} {H : Hp} {h : AH}

/-! ### truth -/
def truT (h : AH) : T → Option Bool
  | .non => some false
  | .bl b => some b
  | .int i => some (i != 0)
  | .str x => if x.length ≤ sizeLine then some ((x.length : Int) != 0) else none
  | .tup ts => some (!ts.isEmpty)
  | .obj n => match h[n]? with
    | some (.lst ts) => some (!ts.isEmpty)
    | some (.dK kts) => some (!kts.isEmpty)
    | _ => none
  | _ => none
theorem truT_ok (r : RepH G K μ H h) {t : T} {v : V} {b : Bool} (i : Is G K μ H t v) (e : truT h t = some b) : TruV K v H b := by
  cases i with
  | non => cases e; rfl
  | bl b => cases e; rfl
  | int b => cases e; rfl
  | str x =>
    unfold truT at e
    dsimp only at e
    split at e
    · next hl => cases e; exact ⟨hl, rfl⟩
    · cases e
  | @tup a ts vs s l =>
    cases e
    refine .inr (.inl ⟨vs, s, ?_⟩)
    cases l <;> rfl
  | @obj n a s =>
    unfold truT at e
    dsimp only at e
    split at e
    · next ts hk =>
      obtain ⟨a', o, q1, q2, q3⟩ := r.get hk
      rw [s] at q1
      cases q1
      cases e
      cases q3 with
      | lst l =>
        refine .inl ⟨_, SqL.of q2, ?_⟩
        cases l <;> rfl
    · next kts hk =>
      obtain ⟨a', o, q1, q2, q3⟩ := r.get hk
      rw [s] at q1
      cases q1
      cases e
      cases q3 with
      | dK l =>
        refine .inr (.inr ⟨_, q2, ?_⟩)
        cases l <;> rfl
    · cases e
  | _ => cases e
/-- a value as a test -/
def mTru (m : EM) : EB := fun env h => (m env h).bind fun t h1 => match truT h1 t with
  | some b => .ok b h1 | none => .bad
theorem ptm_val {e : Expr} {m : EM} (he : PEm G X W e m) (ht : ∀ whole, isTrue e X.env whole = (do let v ← whole; standAt e.pos; holding [v] (truthy v)) := by intro _; rfl) : PTm G X W e (mTru m) :=
  PT.imp (pt_truth he ht) fun σ H Q q => by
    obtain ⟨μ, env, h, r, re, w⟩ := q
    refine ⟨μ, env, h, r, re, (Want.bind w).mp fun t h1 μ1 H1 _ e1 r1 ⟨_, _, w1⟩ v iv => ?_⟩
    cases hb : truT h1 t with
    | none => rw [hb] at w1; exact w1.elim
    | some b =>
      rw [hb] at w1
      exact ⟨b, truT_ok r1 iv hb, Want.now r1 w1⟩
def mNotB (m : EB) : EB := fun env h => (m env h).bind fun b h1 => .ok (!b) h1
def mAndB (m n : EB) : EB := fun env h => (m env h).bind fun b h1 => if b = true then n env h1 else .ok false h1
def mOrB (m n : EB) : EB := fun env h => (m env h).bind fun b h1 => if b = true then .ok true h1 else n env h1
theorem ptm_not {e : Expr} {m : EB} {pos : Pos} (he : PTm G X W e m) : PTm G X W (.UnaryOp .Not e pos) (mNotB m) :=
  PT.imp (pt_not he) fun σ H Q q => by
    obtain ⟨μ, env, h, r, re, w⟩ := q
    exact ⟨μ, env, h, r, re, (Want.bind w).mp fun b h1 μ1 H1 _ e1 r1 ⟨_, _, w1⟩ => Want.now (R := wB Q) r1 w1⟩
theorem ptm_w {e : Expr} {m : EB} (h : PWm G X W e m) : PTm G X W e m := PW.pt h
theorem pwm_and1 {e : Expr} {m : EB} {pos : Pos} (he : PTm G X W e m) : PWm G X W (.BoolOp .And [e] pos) m := pw_and1 he
theorem pwm_or1 {e : Expr} {m : EB} {pos : Pos} (he : PTm G X W e m) : PWm G X W (.BoolOp .Or [e] pos) m := pw_or1 he
theorem pwm_and {a b : Expr} {rest : List Expr} {m n : EB} {pos : Pos} (ha : PTm G X W a m) (hb : PWm G X W (.BoolOp .And (b :: rest) pos) n) : PWm G X W (.BoolOp .And (a :: b :: rest) pos) (mAndB m n) :=
  PW.imp (pw_and ha hb) fun σ H Q q => by
    obtain ⟨μ, env, h, r, re, w⟩ := q
    refine ⟨μ, env, h, r, re, (Want.bind w).mp fun b h1 μ1 H1 _ e1 r1 ⟨_, _, w1⟩ => ?_⟩
    cases b with
    | true => exact ⟨μ1, env, h1, r1, re.mono e1, w1⟩
    | false => exact Want.now (R := wB Q) r1 w1
theorem pwm_or {a b : Expr} {rest : List Expr} {m n : EB} {pos : Pos} (ha : PTm G X W a m) (hb : PWm G X W (.BoolOp .Or (b :: rest) pos) n) : PWm G X W (.BoolOp .Or (a :: b :: rest) pos) (mOrB m n) :=
  PW.imp (pw_or ha hb) fun σ H Q q => by
    obtain ⟨μ, env, h, r, re, w⟩ := q
    refine ⟨μ, env, h, r, re, (Want.bind w).mp fun b h1 μ1 H1 _ e1 r1 ⟨_, _, w1⟩ => ?_⟩
    cases b with
    | true => exact Want.now (R := wB Q) r1 w1
    | false => exact ⟨μ1, env, h1, r1, re.mono e1, w1⟩
/-- a and b, a or b, not a as values, by truth -/
def mOrV (m n : EM) : EM := fun env h => (m env h).bind fun t h1 => match truT h1 t with
  | some true => .ok t h1 | some false => n env h1 | none => .bad
def mAndV (m n : EM) : EM := fun env h => (m env h).bind fun t h1 => match truT h1 t with
  | some true => n env h1 | some false => .ok t h1 | none => .bad
def mNotV (m : EM) : EM := fun env h => (m env h).bind fun t h1 => match truT h1 t with
  | some b => .ok (.bl (!b)) h1 | none => .bad
theorem pm_one {op : BoolOp} {e : Expr} {m : EM} {pos : Pos} (he : PEm G X W e m) : PEm G X W (.BoolOp op [e] pos) m := pe_one he
theorem pm_or {a b : Expr} {rest : List Expr} {m n : EM} {pos : Pos} (ha : PEm G X W a m) (hb : PEm G X W (.BoolOp .Or (b :: rest) pos) n) : PEm G X W (.BoolOp .Or (a :: b :: rest) pos) (mOrV m n) :=
  PE.imp (pe_orT ha hb) fun σ H Q q => by
    obtain ⟨μ, env, h, r, re, w⟩ := q
    refine ⟨μ, env, h, r, re, (Want.bind w).mp fun t h1 μ1 H1 _ e1 r1 ⟨_, _, w1⟩ v iv => ?_⟩
    split at w1
    · next hb => exact ⟨true, truT_ok r1 iv hb, Want.now (R := wT G X.K Q) r1 w1 v iv⟩
    · next hb => exact ⟨false, truT_ok r1 iv hb, ⟨μ1, env, h1, r1, re.mono e1, w1⟩⟩
    · exact w1.elim
theorem pm_and {a b : Expr} {rest : List Expr} {m n : EM} {pos : Pos} (ha : PEm G X W a m) (hb : PEm G X W (.BoolOp .And (b :: rest) pos) n) : PEm G X W (.BoolOp .And (a :: b :: rest) pos) (mAndV m n) :=
  PE.imp (pe_andT ha hb) fun σ H Q q => by
    obtain ⟨μ, env, h, r, re, w⟩ := q
    refine ⟨μ, env, h, r, re, (Want.bind w).mp fun t h1 μ1 H1 _ e1 r1 ⟨_, _, w1⟩ v iv => ?_⟩
    split at w1
    · next hb => exact ⟨true, truT_ok r1 iv hb, ⟨μ1, env, h1, r1, re.mono e1, w1⟩⟩
    · next hb => exact ⟨false, truT_ok r1 iv hb, Want.now (R := wT G X.K Q) r1 w1 v iv⟩
    · exact w1.elim
theorem pm_not {a : Expr} {m : EM} {pos : Pos} (ha : PEm G X W a m) : PEm G X W (.UnaryOp .Not a pos) (mNotV m) :=
  PE.imp (pe_notT ha) fun σ H Q q => by
    obtain ⟨μ, env, h, r, re, w⟩ := q
    refine ⟨μ, env, h, r, re, (Want.bind w).mp fun t h1 μ1 H1 _ e1 r1 ⟨_, _, w1⟩ v iv => ?_⟩
    split at w1
    · next b hb => exact ⟨b, truT_ok r1 iv hb, Want.now (R := wT G X.K Q) r1 w1 _ (.bl _)⟩
    · exact w1.elim
/-- a if c else b -/
def mIfE (c : EB) (m n : EM) : EM := fun env h => (c env h).bind fun b h1 => if b = true then m env h1 else n env h1
theorem pm_if {c a b : Expr} {mc : EB} {m n : EM} {pos : Pos} (hc : PTm G X W c mc) (ha : PEm G X W a m) (hb : PEm G X W b n) : PEm G X W (.IfExp c a b pos) (mIfE mc m n) :=
  PE.imp (pe_ifExp hc ha hb) fun σ H Q q => by
    obtain ⟨μ, env, h, r, re, w⟩ := q
    refine ⟨μ, env, h, r, re, (Want.bind w).mp fun b h1 μ1 H1 _ e1 r1 ⟨_, _, w1⟩ => ?_⟩
    cases b with
    | true => exact ⟨μ1, env, h1, r1, re.mono e1, w1⟩
    | false => exact ⟨μ1, env, h1, r1, re.mono e1, w1⟩
/-- a < b < c -/
def mChain (f g : T → T → AH → Option Bool) (m n o : EM) : EB := fun env h => (m env h).bind fun t h1 => (n env h1).bind fun u h2 => match f t u h2 with
  | some true => (o env h2).bind fun y h3 => match g u y h3 with
    | some b => .ok b h3 | none => .bad
  | some false => .ok false h2
  | none => .bad
theorem chain_ok {r r' : R2} {f g : T → T → AH → Option Bool} {m n o : EM} (hf : CmM G X.K r f) (hg : CmM G X.K r' g) {σ : L2.St} {H : Hp} {Q : VK} {S : Bool → Hp → Prop} (hS : ∀ b H', S b H' → Q (.bl b) H')
    (q : ∃ μ env h, RepH G X.K μ H h ∧ RepE G X.K μ H σ env ∧ Want G X.K (fun c d H' => W c d σ H') (mChain f g m n o env h) μ H (wB S)) : tChain r r' (teOf G X.K W m) (teOf G X.K W n) (teOf G X.K W o) σ H Q := by
    obtain ⟨μ, env, h, r, re, w⟩ := q
    refine ⟨μ, env, h, r, re, (Want.bind w).mp fun t h1 μ1 H1 _ e1 r1 ⟨_, _, w1⟩ v iv => ?_⟩
    refine ⟨μ1, env, h1, r1, re.mono e1, (Want.bind w1).mp fun u h2 μ2 H2 _ e2 r2 ⟨_, _, w2⟩ y iy => ?_⟩
    split at w2
    · next hb =>
      refine hf r2 (iv.mono e2) iy hb ⟨true, rfl, ?_⟩
      rw [if_pos rfl]
      refine ⟨μ2, env, h2, r2, (re.mono e1).mono e2, (Want.bind w2).mp fun x h3 μ3 H3 _ e3 r3 ⟨_, _, w3⟩ z iz => ?_⟩
      split at w3
      · next b hb2 => exact hg r3 (iy.mono e3) iz hb2 (hS _ _ (Want.now (R := wB S) r3 w3))
      · exact w3.elim
    · next hb =>
      refine hf r2 (iv.mono e2) iy hb ⟨false, rfl, ?_⟩
      rw [if_neg Bool.false_ne_true]
      exact hS _ _ (Want.now (R := wB S) r2 w2)
    · exact w2.elim
theorem ptm_chain {op op' : CmpOp} {r r' : R2} {f g : T → T → AH → Option Bool} {a b c : Expr} {m n o : EM} {pos : Pos} (ho : OpR X (compareOp op) r) (hf : CmM G X.K r f) (ho' : OpR X (compareOp op') r') (hg : CmM G X.K r' g)
    (ha : PEm G X W a m) (hb : PEm G X W b n) (hc : PEm G X W c o) (hm : lastMarks [op, op'] [b, c] = false := by with_unfolding_all rfl) : PTm G X W (.Compare a [op, op'] [b, c] pos) (mChain f g m n o) :=
  PT.imp (pt_chain ho ho' ha hb hc hm) fun σ H Q q => chain_ok hf hg (S := Q) (fun b _ z => ⟨b, rfl, z⟩) q
theorem pm_chain {op op' : CmpOp} {r r' : R2} {f g : T → T → AH → Option Bool} {a b c : Expr} {m n o : EM} {pos : Pos} (ho : OpR X (compareOp op) r) (hf : CmM G X.K r f) (ho' : OpR X (compareOp op') r') (hg : CmM G X.K r' g)
    (ha : PEm G X W a m) (hb : PEm G X W b n) (hc : PEm G X W c o) (hm : lastMarks [op, op'] [b, c] = false := by with_unfolding_all rfl) : PEm G X W (.Compare a [op, op'] [b, c] pos) (fun env h => (mChain f g m n o env h).bind fun b h => .ok (.bl b) h) :=
  PE.imp (pe_chain ho ho' ha hb hc hm) fun σ H Q q => by
    obtain ⟨μ, env, h, r, re, w⟩ := q
    exact chain_ok hf hg (S := fun b H' => Q (.bl b) H') (fun _ _ z => z) ⟨μ, env, h, r, re, (Want.bind w).mp fun b h1 μ1 H1 _ e1 r1 ⟨_, _, w1⟩ => Want.now (R := wT G X.K Q) r1 w1 _ (.bl b)⟩

/-! ### statements -/
def WantS (G : CT) (K : PySem.W.Frag) (W : WX) (D : Ends) (o : OutS) (μ : Mu) (H : Hp) : Prop := match o with
  | .nx env h => ∀ μ' σ' H', Ext μ H μ' H' → RepH G K μ' H' h → RepE G K μ' H' σ' env → D.nx σ' H'
  | .rt t h => ∀ μ' v H', Ext μ H μ' H' → RepH G K μ' H' h → Is G K μ' H' t v → D.rt v H'
  | .bk env h => ∀ μ' σ' H', Ext μ H μ' H' → RepH G K μ' H' h → RepE G K μ' H' σ' env → D.bk σ' H'
  | .ct env h => ∀ μ' σ' H', Ext μ H μ' H' → RepH G K μ' H' h → RepE G K μ' H' σ' env → D.ct σ' H'
  | .ex x env h => ∀ μ' σ' H' cls d, Ext μ H μ' H' → RepH G K μ' H' h → RepE G K μ' H' σ' env → IsX G K μ' H' x cls d → W cls d σ' H'
  | .bad => False
def tsOf (G : CT) (K : PySem.W.Frag) (W : WX) (m : SM) : TS := fun D σ H => ∃ μ env h, RepH G K μ H h ∧ RepE G K μ H σ env ∧ WantS G K W D (m env h) μ H
def PSm (G : CT) (X : Cx) (W : WX) (st : Stmt) (m : SM) : Prop := PS X st (tsOf G X.K W m)
def PSsm (G : CT) (X : Cx) (W : WX) (st : List Stmt) (m : SM) : Prop := PSs X st (tsOf G X.K W m)
theorem PS.imp {st : Stmt} {t t' : TS} (h : PS X st t) (i : ∀ D σ H, t' D σ H → t D σ H) : PS X st t' := ⟨fun pins s σ H D I q => h.run pins s σ H D I (i D σ H q)⟩
theorem PSs.imp {st : List Stmt} {t t' : TS} (h : PSs X st t) (i : ∀ D σ H, t' D σ H → t D σ H) : PSs X st t' := ⟨fun pins s σ H D I q => h.run pins s σ H D I (i D σ H q)⟩
theorem WantS.up {D : Ends} {o : OutS} {μ1 : Mu} {H1 : Hp} (e : Ext μ H μ1 H1) (w : WantS G K W D o μ H) : WantS G K W D o μ1 H1 := by
  cases o with
  | nx env h => exact fun μ' σ' H' e' => w μ' σ' H' (e.trans e')
  | rt t h => exact fun μ' v H' e' => w μ' v H' (e.trans e')
  | bk env h => exact fun μ' σ' H' e' => w μ' σ' H' (e.trans e')
  | ct env h => exact fun μ' σ' H' e' => w μ' σ' H' (e.trans e')
  | ex x env h => exact fun μ' σ' H' c d e' => w μ' σ' H' c d (e.trans e')
  | bad => exact w
/-- an expression within a statement -/
def Out.st {α : Type} (o : Out α) (env : Env) (k : α → AH → OutS) : OutS := match o with
  | .ok a h => k a h | .ex x h => .ex x env h | .bad => .bad
theorem WantS.expr {α : Type} {D : Ends} {o : Out α} {env : Env} {σ : L2.St} {k : α → AH → OutS} (re : RepE G K μ H σ env) (w : WantS G K W D (o.st env k) μ H) :
    Want G K (fun c d H' => W c d σ H') o μ H (fun a h μ' H' => Ext μ H μ' H' ∧ RepH G K μ' H' h ∧ WantS G K W D (k a h) μ' H') := by
  cases o with
  | ok a h => exact fun μ' H' e' r => ⟨e', r, WantS.up (o := k a h) e' w⟩
  | ex x h => exact fun μ' H' c d e' r i => w μ' σ H' c d e' r (re.mono e') i
  | bad => exact w
def OutS.seq (o : OutS) (k : Env → AH → OutS) : OutS := match o with
  | .nx env h => k env h | o => o
def mNx : SM := fun env h => .nx env h
def mSeq (a b : SM) : SM := fun env h => (a env h).seq b
theorem WantS.seq {D : Ends} {o : OutS} {b : SM} (w : WantS G K W D (o.seq b) μ H) : WantS G K W { D with nx := tsOf G K W b D } o μ H := by
  cases o with
  | nx env h => exact fun μ' σ' H' e r re => ⟨μ', env, h, r, re, w.up e⟩
  | _ => exact w
theorem pssm_nil : PSsm G X W [] mNx := PSs.imp pss_nil fun D σ H q => by
  obtain ⟨μ, env, h, r, re, w⟩ := q
  exact w μ σ H Ext.refl r re
theorem pssm_cons {st : Stmt} {rest : List Stmt} {a b : SM} (h1 : PSm G X W st a) (h2 : PSsm G X W rest b) : PSsm G X W (st :: rest) (mSeq a b) := PSs.imp (pss_cons h1 h2) fun D σ H q => by
  obtain ⟨μ, env, h, r, re, w⟩ := q
  exact ⟨μ, env, h, r, re, WantS.seq w⟩
theorem pssm_one {st : Stmt} {a : SM} (h1 : PSm G X W st a) : PSsm G X W [st] a := pss_one h1
theorem psm_pass {pos : Pos} : PSm G X W (.Pass pos) mNx := PS.imp ps_pass fun D σ H q => by
  obtain ⟨μ, env, h, r, re, w⟩ := q
  exact w μ σ H Ext.refl r re
theorem psm_break {pos : Pos} : PSm G X W (.Break pos) (fun env h => .bk env h) := PS.imp ps_break fun D σ H q => by
  obtain ⟨μ, env, h, r, re, w⟩ := q
  exact w μ σ H Ext.refl r re
theorem psm_continue {pos : Pos} : PSm G X W (.Continue pos) (fun env h => .ct env h) := PS.imp ps_continue fun D σ H q => by
  obtain ⟨μ, env, h, r, re, w⟩ := q
  exact w μ σ H Ext.refl r re
theorem psm_doc {x : Str} {j : Nat} {pos pos' : Pos} : PSm G X W (.Expr (.Constant (.str x) j pos) pos') mNx := PS.imp ps_doc fun D σ H q => by
  obtain ⟨μ, env, h, r, re, w⟩ := q
  exact w μ σ H Ext.refl r re
def mExpr (m : EM) : SM := fun env h => (m env h).st env fun _ h1 => .nx env h1
theorem psm_expr {e : Expr} {m : EM} {pos : Pos} (he : PEm G X W e m) (hs : swapsWith e none pos.line X.env = pure false := by rfl) : PSm G X W (.Expr e pos) (mExpr m) := PS.imp (ps_expr he hs) fun D σ H q => by
  obtain ⟨μ, env, h, r, re, w⟩ := q
  exact ⟨μ, env, h, r, re, (WantS.expr re w).mp fun t h1 μ1 H1 _ e1 r1 ⟨_, _, w1⟩ v iv => w1 μ1 σ H1 Ext.refl r1 (re.mono e1)⟩
def mRet (m : EM) : SM := fun env h => (m env h).st env fun t h1 => .rt t h1
theorem psm_ret {e : Expr} {m : EM} {pos : Pos} (he : PEm G X W e m) : PSm G X W (.Return (some e) pos) (mRet m) := PS.imp (ps_ret he) fun D σ H q => by
  obtain ⟨μ, env, h, r, re, w⟩ := q
  exact ⟨μ, env, h, r, re, (WantS.expr re w).mp fun t h1 μ1 H1 _ e1 r1 ⟨_, _, w1⟩ v iv => w1 μ1 v H1 Ext.refl r1 iv⟩
def mIf (c : EB) (a b : SM) : SM := fun env h => (c env h).st env fun z h1 => if z = true then a env h1 else b env h1
theorem psm_if {c : Expr} {a b : List Stmt} {mc : EB} {ma mb : SM} {pos : Pos} (hc : PTm G X W c mc) (ha : PSsm G X W a ma) (hb : PSsm G X W b mb) : PSm G X W (.If c a b pos) (mIf mc ma mb) := PS.imp (ps_if hc ha hb) fun D σ H q => by
  obtain ⟨μ, env, h, r, re, w⟩ := q
  refine ⟨μ, env, h, r, re, (WantS.expr re w).mp fun z h1 μ1 H1 _ e1 r1 ⟨_, _, w1⟩ => ?_⟩
  cases z with
  | true => exact ⟨μ1, env, h1, r1, re.mono e1, w1⟩
  | false => exact ⟨μ1, env, h1, r1, re.mono e1, w1⟩
/-- x = e -/
def mSet (i : Nat) (m : EM) : SM := fun env h => (m env h).st env fun t h1 => .nx (env.set i (some t)) h1
theorem psm_set (i : Nat) {x : Str} {e : Expr} {m : EM} {pos pos' : Pos} (hN : X.N.Nodup) (he : PEm G X W e m) (hi : X.N[i]? = some x := by rfl) (hx : Loc X.env.scope x := by first | exact Or.inl rfl | exact Or.inr rfl)
    (hs : swapsWith e (some (.Name x pos')) pos.line X.env = pure false := by rfl) (hf : X.fn x = true ∨ X.env.scope.names.lookup x = some .local := by first | exact .inl rfl | exact .inr rfl) : PSm G X W (.Assign [.Name x pos'] e pos) (mSet i m) :=
  PS.imp (ps_set hN hi hx he hs hf) fun D σ H q => by
  obtain ⟨μ, env, h, r, re, w⟩ := q
  exact ⟨μ, env, h, r, re, (WantS.expr re w).mp fun t h1 μ1 H1 _ e1 r1 ⟨_, _, w1⟩ v iv => w1 μ1 _ H1 Ext.refl r1 ((re.mono e1).set i iv)⟩
/-- a, b = x, y -/
def mPar (i j : Nat) (m : EL) : SM := fun env h => (m env h).st env fun ts h1 => match ts with
  | [t, u] => .nx ((env.set i (some t)).set j (some u)) h1
  | _ => .bad
theorem psm_par (i j : Nat) {x y : Str} {a b : Expr} {m : EL} {px py pt : Pos} {kt k2 : Nat} {pt2 pos : Pos} (h : PS X (.Assign [.Tuple [.Name x px, .Name y py] kt pt] (.Tuple [a, b] k2 pt2) pos) (tPar i j (taOf G X.K W m))) :
    PSm G X W (.Assign [.Tuple [.Name x px, .Name y py] kt pt] (.Tuple [a, b] k2 pt2) pos) (mPar i j m) := PS.imp h fun D σ H q => by
  obtain ⟨μ, env, h, r, re, w⟩ := q
  refine ⟨μ, env, h, r, re, (WantS.expr re w).mp fun ts h1 μ1 H1 _ e1 r1 ⟨_, _, w1⟩ vs ivs => ?_⟩
  split at w1
  · next t u =>
    cases ivs with
    | cons i1 r1' =>
      cases r1' with
      | cons i2 r2' =>
        cases r2'
        exact ⟨_, _, rfl, w1 μ1 _ H1 Ext.refl r1 (((re.mono e1).set i i1).set j i2)⟩
  · exact w1.elim

/-! ### targets: vs are the slots that may be stored -/
def tgOf (G : CT) (K : PySem.W.Frag) (vs : List Nat) (g : T → Env → Option Env) : TG := fun v σ H Q => ∃ μ env h t env', RepH G K μ H h ∧ RepE G K μ H σ env ∧ Is G K μ H t v ∧ g t env = some env' ∧ ∀ σ', RepE G K μ H σ' env' → wipe σ' vs = wipe σ vs → Q σ' H
def tgsOf (G : CT) (K : PySem.W.Frag) (vs : List Nat) (g : List T → Env → Option Env) : TGs := fun ws σ H Q => ∃ μ env h ts env', RepH G K μ H h ∧ RepE G K μ H σ env ∧ IsL G K μ H ts ws ∧ g ts env = some env' ∧ ∀ σ', RepE G K μ H σ' env' → wipe σ' vs = wipe σ vs → Q σ' H
def PGm (G : CT) (X : Cx) (vs : List Nat) (e : Expr) (g : T → Env → Option Env) : Prop := PG X e (tgOf G X.K vs g)
def PGsm (G : CT) (X : Cx) (vs : List Nat) (es : List Expr) (g : List T → Env → Option Env) : Prop := PGs X es (tgsOf G X.K vs g)
theorem PG.imp {e : Expr} {t t' : TG} (h : PG X e t) (i : ∀ v σ H Q, t' v σ H Q → t v σ H Q) : PG X e t' := ⟨fun pins s σ H v u Q I r q => h.run pins s σ H v u Q I r (i v σ H Q q)⟩
theorem PGs.imp {e : List Expr} {t t' : TGs} (h : PGs X e t) (i : ∀ v σ H Q, t' v σ H Q → t v σ H Q) : PGs X e t' := ⟨fun pins s σ H v u Q I r q => h.run pins s σ H v u Q I r (i v σ H Q q)⟩
theorem wipe_set {σ : L2.St} {i : Nat} {v : Option V} : ∀ {vs : List Nat}, i ∈ vs → wipe (σ.set i v) vs = wipe σ vs
  | [], h => by cases h
  | j :: vs, h => by
    unfold wipe
    by_cases hi : i ∈ vs
    · rw [wipe_set hi]
    · have e : i = j := by
        rcases List.mem_cons.mp h with z | z
        · exact z
        · exact (hi z).elim
      subst e
      apply List.ext_getElem?
      intro k
      by_cases hk : i = k
      · subst hk
        rw [List.getElem?_set_self', List.getElem?_set_self', wipe_out hi, wipe_out hi, List.getElem?_set_self']
        cases σ[i]? <;> rfl
      · rw [List.getElem?_set_ne hk, List.getElem?_set_ne hk]
        by_cases hm : k ∈ vs
        · clear hi h hk
          induction vs with
          | nil => cases hm
          | cons a r ih =>
            unfold wipe
            by_cases hka : a = k
            · subst hka
              rw [List.getElem?_set_self', List.getElem?_set_self']
              have z1 := wipe_length (σ.set i v) r
              have z2 := wipe_length σ r
              rw [List.length_set] at z1
              by_cases hl : a < σ.length
              · rw [List.getElem?_eq_getElem (by rw [z1]; exact hl), List.getElem?_eq_getElem (by rw [z2]; exact hl)]
                rfl
              · rw [List.getElem?_eq_none_iff.mpr (by rw [z1]; omega), List.getElem?_eq_none_iff.mpr (by rw [z2]; omega)]
            · rw [List.getElem?_set_ne hka, List.getElem?_set_ne hka]
              rcases List.mem_cons.mp hm with z | z
              · exact (hka z.symm).elim
              · exact ih z
        · rw [wipe_out hm, wipe_out hm, List.getElem?_set_ne hk]
def gN (i : Nat) (t : T) (env : Env) : Option Env := some (env.set i (some t))
theorem pgm_name (i : Nat) {vs : List Nat} {x : Str} {pos : Pos} (hv : i ∈ vs) (hN : X.N.Nodup) (hi : X.N[i]? = some x := by rfl) (hx : Loc X.env.scope x := by first | exact Or.inl rfl | exact Or.inr rfl) (hf : X.fn x = true ∨ X.env.scope.names.lookup x = some .local := by first | exact .inl rfl | exact .inr rfl) : PGm G X vs (.Name x pos) (gN i) :=
  PG.imp (pg_name hN hi hx hf) fun v σ H Q q => by
    obtain ⟨μ, env, h, t, env', r, re, iv, e, k⟩ := q
    cases e
    exact k _ (re.set i iv) (wipe_set hv)
def gNl (ts : List T) (env : Env) : Option Env := match ts with
  | [] => some env
  | _ => none
def gCn (g : T → Env → Option Env) (gs : List T → Env → Option Env) (ts : List T) (env : Env) : Option Env := match ts with
  | t :: r => (g t env).bind fun e1 => gs r e1
  | [] => none
theorem pgsm_nil {vs : List Nat} : PGsm G X vs [] gNl := PGs.imp pgs_nil fun ws σ H Q q => by
  obtain ⟨μ, env, h, ts, env', r, re, iv, e, k⟩ := q
  cases ts with
  | nil =>
    cases iv
    cases e
    exact ⟨rfl, k _ re rfl⟩
  | cons a b => cases e
theorem pgsm_cons {vs : List Nat} {e : Expr} {es : List Expr} {g : T → Env → Option Env} {gs : List T → Env → Option Env} (h1 : PGm G X vs e g) (h2 : PGsm G X vs es gs) (hs : (assignEach (e :: es) X.env).map (·.2) = assign e X.env :: (assignEach es X.env).map (·.2) := by rfl) : PGsm G X vs (e :: es) (gCn g gs) :=
  PGs.imp (pgs_cons h1 h2 hs) fun ws σ H Q q => by
    obtain ⟨μ, env, h, ts, env', r, re, iv, e, k⟩ := q
    cases iv with
    | nil => cases e
    | @cons t rt v rv i1 i2 =>
      unfold gCn at e
      dsimp only at e
      cases q1 : g t env with
      | none => rw [q1] at e; cases e
      | some e1 =>
        rw [q1] at e
        exact ⟨v, rv, rfl, μ, env, h, t, e1, r, re, i1, q1, fun σ' re' w1 => ⟨μ, e1, h, rt, env', r, re', i2, e, fun σ2 re2 w2 => k σ2 re2 (w2.trans w1)⟩⟩
def gT (n : Nat) (gs : List T → Env → Option Env) (t : T) (env : Env) : Option Env := match t with
  | .tup ts => if ts.length = n then gs ts env else none
  | _ => none
theorem pgm_tup {vs : List Nat} {es : List Expr} {j : Nat} {pos : Pos} {gs : List T → Env → Option Env} (n : Nat) (hc : X.calm = true) (h : PGsm G X vs es gs) (hn : (assignEach es X.env).length = n := by rfl) (hst : (assignEach es X.env).findIdx? (·.1) = none := by rfl) : PGm G X vs (.Tuple es j pos) (gT n gs) :=
  PG.imp (pg_tup hc h hn hst) fun v σ H Q q => by
    obtain ⟨μ, env, h, t, env', r, re, iv, e, k⟩ := q
    cases iv with
    | @tup a ts ws s l =>
      unfold gT at e
      dsimp only at e
      split at e
      · next hl => exact ⟨a, ws, rfl, s, by rw [← l.length]; exact hl, μ, env, h, ts, env', r, re, l, e, k⟩
      · cases e
    | _ => cases e
/-- target = e -/
def mAsg (g : T → Env → Option Env) (m : EM) : SM := fun env h => (m env h).st env fun t h1 => match g t env with
  | some env' => .nx env' h1 | none => .bad
theorem psm_asg {vs : List Nat} {tg e : Expr} {m : EM} {g : T → Env → Option Env} {pos : Pos} (he : PEm G X W e m) (hg : PGm G X vs tg g) (hs : swapsWithSole [tg] e pos.line X.env = pure false := by rfl) (hw : swappedStores [tg] e X.env = pure none := by rfl)
    (h1 : (assignEach [tg] X.env).map (·.2) = [assign tg X.env] := by rfl) : PSm G X W (.Assign [tg] e pos) (mAsg g m) := PS.imp (ps_asg he hg hs hw h1) fun D σ H q => by
  obtain ⟨μ, env, h, r, re, w⟩ := q
  refine ⟨μ, env, h, r, re, (WantS.expr re w).mp fun t h1 μ1 H1 _ e1 r1 ⟨_, _, w1⟩ v iv => ?_⟩
  split at w1
  · next env' he => exact ⟨μ1, env, h1, t, env', r1, re.mono e1, iv, he, fun σ' re' _ => w1 μ1 σ' H1 Ext.refl r1 re'⟩
  · exact w1.elim
end
end M
namespace M
open PySem L2
section
variable {G : CT} {X : Cx} {W : WX} {K : PySem.W.Frag} {μ : Mu} {H : Hp} {h : AH}

/-! ### what is walked: at turn i, by the heap then: none: not known; some none: the end; some (some t): t -/
structure Src where
  nx : Nat → AH → Option (Option T)
  fuel : Nat
def Src.fix (ts : List T) : Src := ⟨fun i _ => some ts[i]?, ts.length + 1⟩
def Src.lst (n fuel : Nat) : Src := ⟨fun i h => match h[n]? with
  | some (.lst ts) => some ts[i]?
  | _ => none, fuel⟩
def SrcOk (G : CT) (K : PySem.W.Frag) (s : Src) (μ1 : Mu) (H1 : Hp) (J : It) : Prop := ∀ i h μ' H', ExtI μ1 H1 μ' H' → RepH G K μ' H' h → match s.nx i h with
  | none => True
  | some none => J.stop i H'
  | some (some t) => J.go i H' ∧ ∀ x H'', J.yld i H' x H'' → Ext μ' H' μ' H'' ∧ RepH G K μ' H'' h ∧ Is G K μ' H'' t x
def tiOf (G : CT) (K : PySem.W.Frag) (W : WX) (m : Env → AH → Out Src) : TI := fun σ H R => ∃ μ env h, RepH G K μ H h ∧ RepE G K μ H σ env ∧ Want G K (fun c d H' => W c d σ H') (m env h) μ H (fun s h1 μ1 H1 => ∀ J, SrcOk G K s μ1 H1 J → R J H1)
def PIm (G : CT) (X : Cx) (W : WX) (tg iter : Expr) (m : Env → AH → Out Src) : Prop := PI X tg iter (tiOf G X.K W m)
theorem PI.imp {tg iter : Expr} {t t' : TI} (h : PI X tg iter t) (i : ∀ σ H R, t' σ H R → t σ H R) : PI X tg iter t' := ⟨fun pins s σ H R I q => h.run pins s σ H R I (i σ H R q)⟩
theorem srcOk_tup {μ1 : Mu} {H1 : Hp} {a : Addr} {ts : List T} {vs : List V} (s : SqT K H1 a vs) (l : IsL G K μ1 H1 ts vs) : SrcOk G K (.fix ts) μ1 H1 (Itt K a) := fun i h μ' H' e r => by
  show match some ts[i]? with
    | none => True
    | some none => (Itt K a).stop i H'
    | some (some t) => (Itt K a).go i H' ∧ ∀ x H'', (Itt K a).yld i H' x H'' → Ext μ' H' μ' H'' ∧ RepH G K μ' H'' h ∧ Is G K μ' H'' t x
  cases q : ts[i]? with
  | none => exact ⟨vs, e.sqt s, by rw [← l.length]; exact List.getElem?_eq_none_iff.mp q⟩
  | some t =>
    obtain ⟨v, hv, iv⟩ := l.get q
    refine ⟨⟨vs, v, e.sqt s, hv⟩, ?_⟩
    rintro x H'' ⟨rfl, hx⟩
    have z := hx vs (e.sqt s)
    rw [hv] at z
    cases z
    exact ⟨Ext.refl, r, iv.monoI e⟩
theorem srcOk_lv {μ1 : Mu} {H1 : Hp} {a : Addr} {ts : List T} {vs : List V} (z : a ∈ μ1.z) (s : H1 a = some (.lst vs)) (l : IsL G K μ1 H1 ts vs) : SrcOk G K (.fix ts) μ1 H1 (Itl K a) := fun i h μ' H' e r => by
  have s' : SqL K H' a vs := SqL.of (e.zk _ _ z s)
  show match some ts[i]? with
    | none => True
    | some none => (Itl K a).stop i H'
    | some (some t) => (Itl K a).go i H' ∧ ∀ x H'', (Itl K a).yld i H' x H'' → Ext μ' H' μ' H'' ∧ RepH G K μ' H'' h ∧ Is G K μ' H'' t x
  cases q : ts[i]? with
  | none => exact ⟨vs, s', by rw [← l.length]; exact List.getElem?_eq_none_iff.mp q⟩
  | some t =>
    obtain ⟨v, hv, iv⟩ := l.get q
    refine ⟨⟨vs, v, s', hv⟩, ?_⟩
    rintro x H'' ⟨rfl, hx⟩
    have z := hx vs s'
    rw [hv] at z
    cases z
    exact ⟨Ext.refl, r, iv.monoI e⟩
def iSeq (K : PySem.W.Frag) (tl : TE) : TI := fun σ H R => tl σ H fun x H1 => ∃ a, x = .ref a ∧ ((∃ xs, SqL K H1 a xs ∧ R (Itl K a) H1) ∨ (∃ xs, SqT K H1 a xs ∧ R (Itt K a) H1))
theorem pi_seq {tg l : Expr} {tl : TE} (hl : PE X l tl) : PI X tg l (iSeq X.K tl) := by
  refine ⟨fun pins s σ H R I h => ?_⟩
  refine thn (hl.run pins s σ H _ I h) fun v s1 ⟨x, H1, I1, r1, q1⟩ => ?_
  obtain ⟨a, e, ⟨xs, hq, q⟩ | ⟨xs, hq, q⟩⟩ := q1
  · subst e
    cases r1
    obtain ⟨its, rv, p, hz⟩ := I1.list hq
    refine wpAny_pyIter_list p.isList ?_
    refine ⟨s1.heap.objs.size, [s1.heap.objs.size], _, _, H1, rfl, I1.kept (t' := s1.toks) fun b o e => Heap.get?_push_of_some _ e, turn_list a _, ⟨_, Heap.get?_push_size _ rfl, rfl, rfl⟩, fun b hb => ?_, q⟩
    have e : b = s1.heap.objs.size := by simpa using hb
    subst e
    exact I1.fpOk (Nat.le_refl _) (I1.hok.fresh (Nat.le_refl _))
  · subst e
    cases r1
    obtain ⟨its, rv, p, hz⟩ := I1.tuple hq
    refine wpAny_pyIter_tuple (show s1.heap.IsTuple a its.toArray from p) ?_
    refine ⟨s1.heap.objs.size, [s1.heap.objs.size], _, _, H1, rfl, I1.kept (t' := s1.toks) fun b o e => Heap.get?_push_of_some _ e, turn_tuple a _, ⟨_, Heap.get?_push_size _ rfl, rfl, rfl⟩, fun b hb => ?_, q⟩
    have e : b = s1.heap.objs.size := by simpa using hb
    subst e
    exact I1.fpOk (Nat.le_refl _) (I1.hok.fresh (Nat.le_refl _))
/-- a tuple, a list -/
def sVal (m : EM) : Env → AH → Out Src := fun env h => (m env h).bind fun t h1 => match t with
  | .tup ts => .ok (.fix ts) h1
  | .lv ts => .ok (.fix ts) h1
  | .obj n => match h1[n]? with
    | some (.lst ts) => .ok (.lst n (ts.length + 1)) h1
    | _ => .bad
  | _ => .bad
theorem pim_val {tg e : Expr} {m : EM} (he : PEm G X W e m) : PIm G X W tg e (sVal m) := PI.imp (pi_seq he) fun σ H R q => by
  obtain ⟨μ, env, h, r, re, w⟩ := q
  refine ⟨μ, env, h, r, re, (Want.bind w).mp fun t h1 μ1 H1 _ e1 r1 ⟨_, _, w1⟩ v iv => ?_⟩
  cases iv with
  | @tup a ts vs s l =>
    exact ⟨a, rfl, .inr ⟨vs, s, Want.now (R := fun s h1 μ1 H1 => ∀ J, SrcOk G X.K s μ1 H1 J → R J H1) r1 w1 _ (srcOk_tup s l)⟩⟩
  | @lv a ts vs z s l =>
    exact ⟨a, rfl, .inl ⟨vs, SqL.of s, Want.now (R := fun s h1 μ1 H1 => ∀ J, SrcOk G X.K s μ1 H1 J → R J H1) r1 w1 _ (srcOk_lv z s l)⟩⟩
  | @obj n a s =>
    dsimp only at w1
    split at w1
    · next ts hk =>
      obtain ⟨a', o, q1, q2, q3⟩ := r1.get hk
      rw [s] at q1
      cases q1
      cases q3 with
      | @lst _ vs l =>
        refine ⟨a, rfl, .inl ⟨vs, SqL.of q2, Want.now (R := fun s h1 μ1 H1 => ∀ J, SrcOk G X.K s μ1 H1 J → R J H1) r1 w1 _ fun i h' μ' H' e r' => ?_⟩⟩
        unfold Src.lst
        dsimp only
        split
        · trivial
        · next hn =>
          split at hn
          · next us hk' =>
            obtain ⟨b, o, p1, p2, p3⟩ := r'.get hk'
            rw [e.ix s] at p1
            cases p1
            cases p3 with
            | @lst _ ws l' => exact ⟨ws, SqL.of p2, by rw [← l'.length]; exact List.getElem?_eq_none_iff.mp (Option.some.inj hn)⟩
          · cases hn
        · next t hn =>
          split at hn
          · next us hk' =>
            obtain ⟨b, o, p1, p2, p3⟩ := r'.get hk'
            rw [e.ix s] at p1
            cases p1
            cases p3 with
            | @lst _ ws l' =>
              obtain ⟨x, hx, ix⟩ := l'.get (Option.some.inj hn)
              refine ⟨⟨ws, x, SqL.of p2, hx⟩, ?_⟩
              rintro y H'' ⟨rfl, hy⟩
              have z := hy ws (SqL.of p2)
              rw [hx] at z
              cases z
              exact ⟨Ext.refl, r', ix⟩
          · cases hn
    · exact w1.elim
  | _ => exact w1.elim
/-- range(..) -/
def rngT (lo : Int) (n : Nat) : List T := (List.range n).map fun i => .int (lo + ((i : Nat) : Int))
theorem rngT_length {lo : Int} {n : Nat} : (rngT lo n).length = n := by unfold rngT; rw [List.length_map, List.length_range]
theorem rngT_get {lo : Int} {n i : Nat} (hi : i < n) : (rngT lo n)[i]? = some (.int (lo + ((i : Nat) : Int))) := by
  unfold rngT
  rw [List.getElem?_map, List.getElem?_range hi]
  rfl
theorem srcOk_rng {μ1 : Mu} {H1 : Hp} {lo : Int} {n : Nat} : SrcOk G K (.fix (rngT lo n)) μ1 H1 (Itr lo n) := fun i h μ' H' e r => by
  by_cases hi : i < n
  · unfold Src.fix
    dsimp only
    rw [rngT_get hi]
    refine ⟨hi, ?_⟩
    rintro x H'' ⟨rfl, rfl⟩
    exact ⟨Ext.refl, r, .int _⟩
  · unfold Src.fix
    dsimp only
    rw [List.getElem?_eq_none_iff.mpr (by rw [rngT_length]; omega)]
    show n ≤ i
    omega
def sRng1 (m : EL) : Env → AH → Out Src := fun env h => (m env h).bind fun ts h1 => match ts with
  | [.int j] => if -(2 ^ 62) ≤ j ∧ j < 2 ^ 62 then .ok (.fix (rngT 0 j.toNat)) h1 else .bad
  | _ => .bad
def sRng2 (m : EL) : Env → AH → Out Src := fun env h => (m env h).bind fun ts h1 => match ts with
  | [.int i, .int j] => if -(2 ^ 62) ≤ i ∧ i < 2 ^ 62 ∧ -(2 ^ 62) ≤ j ∧ j < 2 ^ 62 then .ok (.fix (rngT i (j - i).toNat)) h1 else .bad
  | _ => .bad
theorem pim_rng1 {tg a : Expr} {m : EL} {p pos : Pos} (hm : X.mg "range" = none) (ha : PAm G X W [a] m) (hg : Gl X "range" := by rfl) (hst : starEach [a] X.env = [(false, eval a X.env)] := by rfl) : PIm G X W tg (.Call (.Name "range" p) [a] [] pos) (sRng1 m) :=
  PI.imp (pi_range1 hg hm ha hst) fun σ H R q => by
    obtain ⟨μ, env, h, r, re, w⟩ := q
    refine ⟨μ, env, h, r, re, (Want.bind w).mp fun ts h1 μ1 H1 _ e1 r1 ⟨_, _, w1⟩ vs ivs => ?_⟩
    split at w1
    · split at w1
      · next hj =>
        cases ivs with
        | cons i1 i2 =>
          cases i1
          cases i2
          exact ⟨_, rfl, hj.1, hj.2, Want.now (R := fun s h1 μ1 H1 => ∀ J, SrcOk G X.K s μ1 H1 J → R J H1) r1 w1 _ srcOk_rng⟩
      · exact w1.elim
    · exact w1.elim
theorem pim_rng2 {tg a b : Expr} {m : EL} {p pos : Pos} (hm : X.mg "range" = none) (ha : PAm G X W [a, b] m) (hg : Gl X "range" := by rfl) (hst : starEach [a, b] X.env = [(false, eval a X.env), (false, eval b X.env)] := by rfl) (hs2 : starEach [b] X.env = [(false, eval b X.env)] := by rfl) :
    PIm G X W tg (.Call (.Name "range" p) [a, b] [] pos) (sRng2 m) :=
  PI.imp (pi_range2 hg hm ha hst hs2) fun σ H R q => by
    obtain ⟨μ, env, h, r, re, w⟩ := q
    refine ⟨μ, env, h, r, re, (Want.bind w).mp fun ts h1 μ1 H1 _ e1 r1 ⟨_, _, w1⟩ vs ivs => ?_⟩
    split at w1
    · split at w1
      · next hj =>
        cases ivs with
        | cons i1 i2 =>
          cases i2 with
          | cons i2 i3 =>
            cases i1
            cases i2
            cases i3
            exact ⟨_, _, rfl, ⟨hj.1, hj.2.1, hj.2.2.1, hj.2.2.2⟩, Want.now (R := fun s h1 μ1 H1 => ∀ J, SrcOk G X.K s μ1 H1 J → R J H1) r1 w1 _ srcOk_rng⟩
      · exact w1.elim
    · exact w1.elim

/-! ### loops -/
def OutS.loop (o : OutS) (k : Env → AH → OutS) : OutS := match o with
  | .nx e h => k e h | .ct e h => k e h | .bk e h => .nx e h | o => o
theorem WantS.loop {D : Ends} {o : OutS} {k : Env → AH → OutS} {N : L2.St → Hp → Prop} (w : WantS G K W D (o.loop k) μ H)
    (n : ∀ env h μ' σ' H', Ext μ H μ' H' → RepH G K μ' H' h → RepE G K μ' H' σ' env → WantS G K W D (k env h) μ' H' → N σ' H') : WantS G K W { D with nx := N, ct := N, bk := D.nx } o μ H := by
  cases o with
  | nx env h => exact fun μ' σ' H' e r re => n env h μ' σ' H' e r re (WantS.up (o := k env h) e w)
  | ct env h => exact fun μ' σ' H' e r re => n env h μ' σ' H' e r re (WantS.up (o := k env h) e w)
  | _ => exact w
/-- one turn -/
def turnS (g : T → Env → Option Env) (body : SM) (t : T) (env : Env) (h : AH) (k : Env → AH → OutS) : OutS := match g t env with
  | none => .bad
  | some e1 => (body e1 h).loop k
def loopS (s : Src) (g : T → Env → Option Env) (body : SM) : Nat → Nat → Env → AH → OutS
  | 0, _, _, _ => .bad
  | f + 1, i, env, h => match s.nx i h with
    | none => .bad
    | some none => .nx env h
    | some (some t) => turnS g body t env h (loopS s g body f (i + 1))
def mFor (g : T → Env → Option Env) (m : Env → AH → Out Src) (body : SM) : SM := fun env h => (m env h).st env fun s h1 => loopS s g body s.fuel 0 env h1
theorem psm_for {vs : List Nat} {tg iter : Expr} {body : List Stmt} {m : Env → AH → Out Src} {mb : SM} {g : T → Env → Option Env} {pos : Pos} (hp : PassesOwn (model X.prog X.w) X.A X.env X.xe) (hc : X.calm = true) (hi : PIm G X W tg iter m) (hg : PGm G X vs tg g) (hb : PSsm G X W body mb)
    (hs : ∀ x, foldedSetIterable iter X.env x = pure x := by intro _; rfl) : PSm G X W (.For tg iter body [] pos) (mFor g m mb) :=
  PS.imp (ps_for hp hc hi hg hb hs) fun D σ H q => by
    obtain ⟨μ, env, h, r, re, w⟩ := q
    refine ⟨μ, env, h, r, re, (WantS.expr re w).mp fun s h1 μ1 H1 _ e1 r1 ⟨_, _, w1⟩ J ok => ?_⟩
    refine ⟨fun i m σ H => ∃ μ' env h, Ext μ1 H1 μ' H ∧ RepH G X.K μ' H h ∧ RepE G X.K μ' H σ env ∧ WantS G X.K W D (loopS s g mb m i env h) μ' H, ⟨_, μ1, env, h1, Ext.refl, r1, re.mono e1, w1⟩, ?_⟩
    rintro i m σ' H' ⟨μ', env', h', e', r', re', w'⟩
    cases m with
    | zero => exact w'.elim
    | succ f =>
      unfold loopS at w'
      have z := ok i h' μ' H' e'.toI r'
      split at w'
      · exact w'.elim
      · next hn =>
        rw [hn] at z
        exact .inl ⟨z, w' μ' σ' H' Ext.refl r' re'⟩
      · next t hn =>
        rw [hn] at z
        refine .inr ⟨z.1, fun σ H => ∃ μ' env h, Ext μ1 H1 μ' H ∧ RepH G X.K μ' H h ∧ RepE G X.K μ' H σ env ∧ WantS G X.K W D (loopS s g mb f (i + 1) env h) μ' H, fun σ2 H2 q2 => ⟨f, Nat.lt_succ_self _, q2⟩, ?_⟩
        intro x H'' hy
        obtain ⟨e2, r2, ix⟩ := z.2 x H'' hy
        unfold turnS at w'
        cases hg' : g t env' with
        | none => rw [hg'] at w'; exact w'.elim
        | some env1 =>
          rw [hg'] at w'
          exact ⟨μ', env', h', t, env1, r2, re'.mono e2, ix, hg', fun σ2 re2 _ => ⟨μ', env1, h', r2, re2, WantS.loop (w'.up e2) fun env2 h2 μ2 σ3 H3 e3 r3 re3 w2 => ⟨μ2, env2, h2, (e'.trans e2).trans e3, r3, re3, w2⟩⟩⟩
/-- while -/
def whl (c : EB) (body : SM) : Nat → Env → AH → OutS
  | 0, _, _ => .bad
  | f + 1, env, h => (c env h).st env fun b h1 => if b = true then (body env h1).loop (whl c body f) else .nx env h1
theorem psm_while {c : Expr} {body : List Stmt} {mc : EB} {mb : SM} {pos : Pos} (fuel : Nat) (hp : PassesOwn (model X.prog X.w) X.A X.env X.xe) (hc : PTm G X W c mc) (hb : PSsm G X W body mb) : PSm G X W (.While c body [] pos) (whl mc mb fuel) :=
  PS.imp (ps_while hp hc hb) fun D σ H q => by
    obtain ⟨μ, env, h, r, re, w⟩ := q
    refine ⟨fun m σ H => ∃ μ env h, RepH G X.K μ H h ∧ RepE G X.K μ H σ env ∧ WantS G X.K W D (whl mc mb m env h) μ H, ⟨fuel, μ, env, h, r, re, w⟩, ?_⟩
    rintro m σ' H' ⟨μ', env', h', r', re', w'⟩
    cases m with
    | zero => exact w'.elim
    | succ f =>
      unfold whl at w'
      refine ⟨μ', env', h', r', re', (WantS.expr re' w').mp fun b h1 μ1 H1 _ e1 r1 ⟨_, _, w1⟩ => ?_⟩
      cases b with
      | true =>
        refine ⟨fun σ H => ∃ μ env h, RepH G X.K μ H h ∧ RepE G X.K μ H σ env ∧ WantS G X.K W D (whl mc mb f env h) μ H, fun σ2 H2 q2 => ⟨f, Nat.lt_succ_self _, q2⟩, ?_⟩
        exact ⟨μ1, env', h1, r1, re'.mono e1, WantS.loop w1 fun env2 h2 μ2 σ3 H3 e2 r2 re3 w2 => ⟨μ2, env2, h2, r2, re3, w2⟩⟩
      | false => exact w1 μ1 σ' H1 Ext.refl r1 (re'.mono e1)
end
end M
namespace M
open PySem L2
abbrev FM := List T → AH → Out T
abbrev W0 : WX := fun _ _ _ _ => False
section
variable (G : CT) (K : PySem.W.Frag)
/-- what a def over trees promises: it raises nothing; it may raise -/
def spN (n : Nat) (F : FM) : Sp := fun vs H Q _ => ∃ μ ts h, RepH G K μ H h ∧ IsL G K μ H ts vs ∧ ts.length = n ∧ Want G K (fun _ _ _ => False) (F ts h) μ H (wT G K Q)
def spX (n : Nat) (F : FM) : Sp := fun vs H Q E => ∃ μ ts h, RepH G K μ H h ∧ IsL G K μ H ts vs ∧ ts.length = n ∧ Want G K E (F ts h) μ H (wT G K Q)
end
def runB (n : Nat) (body : SM) : FM := fun ts h => match body (ts.map some ++ List.replicate (n - ts.length) none) h with
  | .nx _ h' => .ok .non h' | .rt t h' => .ok t h' | .ex x _ h' => .ex x h' | _ => .bad
section
variable {G : CT} {K : PySem.W.Frag} {μ : Mu} {H : Hp} {h : AH}
theorem repE_start {ts : List T} {vs : List V} {N : List Str} (l : IsL G K μ H ts vs) : RepE G K μ H (L2.start N vs) (ts.map some ++ List.replicate (N.length - ts.length) none) := by
  have hl := l.length
  unfold L2.start
  refine ⟨by simp [hl], fun i t e => ?_⟩
  by_cases hi : i < ts.length
  · rw [List.getElem?_append_left (by simpa using hi)] at e
    rw [List.getElem?_map] at e
    cases q : ts[i]? with
    | none => rw [q] at e; cases e
    | some u =>
      rw [q] at e
      cases e
      obtain ⟨v, hv, iv⟩ := l.get q
      refine ⟨v, ?_, iv⟩
      rw [List.getElem?_append_left (by rw [List.length_map, ← hl]; exact hi), List.getElem?_map, hv]
      rfl
  · rw [List.getElem?_append_right (by simpa using hi), List.getElem?_replicate] at e
    split at e
    · cases e
    · cases e
theorem runB_want {W : WH} {n : Nat} {body : SM} {ts : List T} {Q : VK} (w : Want G K W (runB n body ts h) μ H (wT G K Q)) :
    WantS G K (fun c d _ H' => W c d H') { nx := fun _ H' => Q .non H', rt := Q } (body (ts.map some ++ List.replicate (n - ts.length) none) h) μ H := by
  unfold runB at w
  cases e : body (ts.map some ++ List.replicate (n - ts.length) none) h with
  | nx env h' => rw [e] at w; exact fun μ' σ' H' e' r re => w μ' H' e' r _ .non
  | rt t h' => rw [e] at w; exact fun μ' v H' e' r i => w μ' H' e' r _ i
  | ex x env h' => rw [e] at w; exact fun μ' σ' H' c d e' r re i => w μ' H' c d e' r i
  | bk env h' => rw [e] at w; exact w.elim
  | ct env h' => rw [e] at w; exact w.elim
  | bad => rw [e] at w; exact w.elim
variable {P : Program} {w : World} {mg : Str → Option Value} {base : Heap}
theorem fnm_ok {x qual : Str} {st : Stmt} {f : Addr} {fd : FuncData} {N ps : List Str} {k : Nat} {body : SM} (F : Fun K x qual st f fd) (S : FnScope N ps (defScope st))
    (hb : ∀ (cdv : Value) (A : Around) (outer : List PySem.Env) (s : Shared) (H : Hp) (E : XK), Room k (A.deeper (PyProof.Rows.envOfC qual (defScope st) s.heap.objs.size f cdv)) →
      PSsm G (cxOf CX0 P w K mg base N qual (defScope st) f cdv A outer s H E).nox W0 (defBody st) body) : FnOk P w K mg base CX0 (k + 1) f fd ps (spN G K ps.length (runB N.length body)) := by
  refine F.ok S (fun vs H Q E q => ?_) (fun cdv A outer s H vs Q E hr q => ?_)
  · obtain ⟨μ, ts, h, r, l, hn, _⟩ := q
    rw [← l.length, hn]
  · obtain ⟨μ, ts, h, r, l, hn, w⟩ := q
    refine ⟨_, hb cdv A outer s H E hr, ?_⟩
    exact ⟨μ, _, h, r, repE_start l, runB_want w⟩
/-- a def that may raise: xe is what it wishes -/
theorem fnm_okX {x qual : Str} {st : Stmt} {f : Addr} {fd : FuncData} {N ps : List Str} {k : Nat} {body : SM} (F : Fun K x qual st f fd) (S : FnScope N ps (defScope st))
    (hb : ∀ (cdv : Value) (A : Around) (outer : List PySem.Env) (s : Shared) (H : Hp) (E : XK), Room k (A.deeper (PyProof.Rows.envOfC qual (defScope st) s.heap.objs.size f cdv)) →
      PSsm G (cxOf (L2.CX P w) P w K mg base N qual (defScope st) f cdv A outer s H E) (fun c d _ H => E c d H) (defBody st) body) : FnOk P w K mg base (L2.CX P w) (k + 1) f fd ps (spX G K ps.length (runB N.length body)) := by
  refine F.okX S (fun vs H Q E q => ?_) (fun cdv A outer s H vs Q E hr q => ?_)
  · obtain ⟨μ, ts, h, r, l, hn, _⟩ := q
    rw [← l.length, hn]
  · obtain ⟨μ, ts, h, r, l, hn, w⟩ := q
    refine ⟨_, hb cdv A outer s H E hr, ?_⟩
    exact ⟨μ, _, h, r, repE_start l, runB_want w⟩
end
/-- a def of the top, by its name -/
structure FnAt (P : Program) (w : World) (K : PySem.W.Frag) (mg : Str → Option Value) (base : Heap) (CX : CXT) (x : Str) (k : Nat) (sp : Sp) : Prop where
  ex : ∃ f fd ps, FnOk P w K mg base CX k f fd ps sp ∧ mg x = some (.ref f) ∧ PySem.W.keepIn K (.ref f) = true ∧ Binds K fd ps []
/-- what the text says of a def of the top -/
structure Df (K : PySem.W.Frag) (mg : Str → Option Value) (x : Str) (st : Stmt) (ps : List Str) : Prop where
  ex : ∃ f fd, Fun K x x st f fd ∧ mg x = some (.ref f) ∧ Binds K fd ps []
section
variable {G : CT} {K : PySem.W.Frag} {P : Program} {w : World} {mg : Str → Option Value} {base : Heap}
theorem Df.fn {x : Str} {st : Stmt} {ps : List Str} {k : Nat} {CX : CXT} {sp : Sp} (D : Df K mg x st ps) (h : ∀ f fd, Fun K x x st f fd → FnOk P w K mg base CX k f fd ps sp) : FnAt P w K mg base CX x k sp := by
  obtain ⟨f, fd, F, m, b⟩ := D.ex
  exact ⟨f, fd, ps, h f fd F, m, F.kp, b⟩
end
section
variable {G : CT} {X : Cx} {W : WX} {K : PySem.W.Frag} {μ : Mu} {H : Hp} {h : AH}
def Out.noX {α : Type} : Out α → Out α
  | .ex _ _ => .bad | o => o
theorem Want.noX {α : Type} {W W' : WH} {o : Out α} {R : α → AH → Mu → Hp → Prop} (w : Want G K W o.noX μ H R) : Want G K W' o μ H R := by
  cases o with
  | ok a h => exact w
  | ex x h => exact w.elim
  | bad => exact w
/-! ### calls of defs -/
def mCall (n : Nat) (F : FM) (m : EL) : EM := fun env h => (m env h).bind fun ts h1 => if ts.length = n then (F ts h1).noX else .bad
def mCallX (n : Nat) (F : FM) (m : EL) : EM := fun env h => (m env h).bind fun ts h1 => if ts.length = n then F ts h1 else .bad
theorem pm_call {x : Str} {p pos : Pos} {e : Expr} {es : List Expr} {m : EL} {k j n : Nat} {F : FM} (A : FnAt X.prog X.w X.K X.mg X.base CX0 x k (spN G X.K n F)) (hr : Room j X.A) (hk : k ≤ j) (ha : PAm G X W (e :: es) m) (hg : Gl X x := by rfl) (hdb : (x == ("__debug__" : Str)) = false := by decide)
    (he : starEach (e :: es) X.env = (false, eval e X.env) :: starEach es X.env := by rfl) (hpl : (backTo pos (starEach es X.env)).any (·.1) = false := by rfl) : PEm G X W (.Call (.Name x p) (e :: es) [] pos) (mCall n F m) := by
  obtain ⟨f, fd, ps, hF, hm, hkp, hb⟩ := A.ex
  refine PE.imp (pe_call hF (hr.mono hk) hg hm hkp hb .nil pass0 ha hdb he hpl) fun σ H Q q => ?_
  obtain ⟨μ, env, h, r, re, w⟩ := q
  refine ⟨μ, env, h, r, re, (Want.bind w).mp fun ts h1 μ1 H1 _ e1 r1 ⟨_, _, w1⟩ vs ivs => ?_⟩
  split at w1
  · next hn =>
    rw [List.append_nil]
    exact ⟨μ1, ts, h1, r1, ivs, hn, w1.noX⟩
  · exact w1.elim
theorem pm_call0 {x : Str} {p pos : Pos} {k j : Nat} {F : FM} (A : FnAt X.prog X.w X.K X.mg X.base CX0 x k (spN G X.K 0 F)) (hr : Room j X.A) (hk : k ≤ j) (hg : Gl X x := by rfl) (hdb : (x == ("__debug__" : Str)) = false := by decide) : PEm G X W (.Call (.Name x p) [] [] pos) (mCall 0 F mNil) := by
  obtain ⟨f, fd, ps, hF, hm, hkp, hb⟩ := A.ex
  refine PE.imp (pe_call0 hF (hr.mono hk) hg hm hkp hb .nil pass0 hdb) fun σ H Q q => ?_
  obtain ⟨μ, env, h, r, re, w⟩ := q
  exact ⟨μ, [], h, r, .nil, rfl, Want.noX (W := fun c d H' => W c d σ H') w⟩
theorem pm_callX {x : Str} {p pos : Pos} {e : Expr} {es : List Expr} {m : EL} {k j n : Nat} {F : FM} (A : FnAt X.prog X.w X.K X.mg X.base (L2.CX X.prog X.w) x k (spX G X.K n F)) (tk : Takes X W) (hr : Room j X.A) (hk : k ≤ j) (ha : PAm G X W (e :: es) m) (hg : Gl X x := by rfl) (hdb : (x == ("__debug__" : Str)) = false := by decide)
    (he : starEach (e :: es) X.env = (false, eval e X.env) :: starEach es X.env := by rfl) (hpl : (backTo pos (starEach es X.env)).any (·.1) = false := by rfl) : PEm G X W (.Call (.Name x p) (e :: es) [] pos) (mCallX n F m) := by
  obtain ⟨f, fd, ps, hF, hm, hkp, hb⟩ := A.ex
  refine PE.imp (pe_callS (E := WE W) hF (hr.mono hk) hg hm hkp hb (fun σ => passAt tk σ) ha hdb he hpl) fun σ H Q q => ?_
  obtain ⟨μ, env, h, r, re, w⟩ := q
  refine ⟨μ, env, h, r, re, (Want.bind w).mp fun ts h1 μ1 H1 _ e1 r1 ⟨_, _, w1⟩ vs ivs => ?_⟩
  split at w1
  · next hn => exact ⟨μ1, ts, h1, r1, ivs, hn, w1⟩
  · exact w1.elim
/-- a method, found by its class -/
structure MtAt (G : CT) (P : Program) (w : World) (K : PySem.W.Frag) (mg : Str → Option Value) (base : Heap) (CX : CXT) (c : Nat) (m : Str) (k : Nat) (sp : Sp) : Prop where
  ex : ∃ f fd ps, FnOk P w K mg base CX k f fd ps sp ∧ Meth K (G.cl c) m f ∧ Binds K fd ps []
  cls : Cls K (G.cl c)
  no : m ∉ FL c
structure DfM (G : CT) (K : PySem.W.Frag) (c : Nat) (m qual : Str) (st : Stmt) (ps : List Str) : Prop where
  ex : ∃ f fd, Fun K m qual st f fd ∧ Meth K (G.cl c) m f ∧ Binds K fd ps []
  cls : Cls K (G.cl c)
  no : m ∉ FL c
theorem DfM.mt {P : Program} {w : World} {mg : Str → Option Value} {base : Heap} {c : Nat} {m qual : Str} {st : Stmt} {ps : List Str} {k : Nat} {CX : CXT} {sp : Sp} (D : DfM G K c m qual st ps) (h : ∀ f fd, Fun K m qual st f fd → FnOk P w K mg base CX k f fd ps sp) : MtAt G P w K mg base CX c m k sp := by
  obtain ⟨f, fd, F, m, b⟩ := D.ex
  exact ⟨⟨f, fd, ps, h f fd F, m, b⟩, D.cls, D.no⟩
theorem lookup_zip_none {f : Str} : ∀ {ks : List Str} {vs : List V}, f ∉ ks → (ks.zip vs).lookup f = none
  | [], _, _ => by simp
  | _ :: _, [], _ => by simp
  | k :: ks, v :: vs, h => by
    show ((k, v) :: ks.zip vs).lookup f = none
    rw [List.lookup_cons, show (f == k) = false from beq_eq_false_iff_ne.mpr (fun z => h (by rw [z]; exact List.mem_cons_self))]
    exact lookup_zip_none fun z => h (List.mem_cons_of_mem _ z)
def mMeth (c n : Nat) (F : FM) (mo : EM) (m : EL) : EM := fun env h => (mo env h).bind fun t h1 => match t with
  | .ins c' ts => if c' = c then (m env h1).bind fun us h2 => if us.length + 1 = n then (F (.ins c' ts :: us) h2).noX else .bad else .bad
  | _ => .bad
def mMethX (c n : Nat) (F : FM) (mo : EM) (m : EL) : EM := fun env h => (mo env h).bind fun t h1 => match t with
  | .ins c' ts => if c' = c then (m env h1).bind fun us h2 => if us.length + 1 = n then F (.ins c' ts :: us) h2 else .bad else .bad
  | _ => .bad
theorem pm_meth {o e : Expr} {es : List Expr} {c n k j : Nat} {mn : Str} {F : FM} {mo : EM} {m : EL} {apos pos : Pos} {pl : Sem Bool} (A : MtAt G X.prog X.w X.K X.mg X.base CX0 c mn k (spN G X.K n F)) (hr : Room j X.A) (hk : k ≤ j) (ho : PEm G X W o mo) (ha : PAm G X W (e :: es) m)
    (hst : starEach (e :: es) X.env = (false, eval e X.env) :: starEach es X.env := by rfl) (hpl : (backTo pos (starEach es X.env)).any (·.1) = false := by rfl)
    (ht : eval (.Call (.Attribute o mn apos) (e :: es) [] pos) X.env = (do
      let ov ← eval o X.env
      standAt apos.atName
      let (f, first) ← holding [ov] (getMethod ov mn pl)
      callWith pos f first (backTo pos (starEach (e :: es) X.env)) (backToKw pos (keywordEach [] X.env))) := by rfl) :
    PEm G X W (.Call (.Attribute o mn apos) (e :: es) [] pos) (mMeth c n F mo m) := by
  obtain ⟨f, fd, ps, hF, hm, hb⟩ := A.ex
  refine PE.imp (pe_meth (pl := pl) ho A.cls hm hF (hr.mono hk) hb .nil pass0 ha hst hpl ht) fun σ H Q q => ?_
  obtain ⟨μ, env, h, r, re, w⟩ := q
  refine ⟨μ, env, h, r, re, (Want.bind w).mp fun t h1 μ1 H1 _ e1 r1 ⟨_, _, w1⟩ v iv => ?_⟩
  cases iv with
  | @ins a dx c' ts vs s nl l =>
    dsimp only at w1
    split at w1
    · next hc =>
      subst hc
      refine ⟨a, dx, _, rfl, s, lookup_zip_none A.no, μ1, env, h1, r1, re.mono e1, (Want.bind w1).mp fun us h2 μ2 H2 _ e2 r2 ⟨_, _, w2⟩ ws iws => ?_⟩
      split at w2
      · next hn =>
        rw [List.append_nil]
        exact ⟨μ2, .ins c' ts :: us, h2, r2, .cons ((Is.ins s nl l).mono e2) iws, hn, w2.noX⟩
      · exact w2.elim
    · exact w1.elim
  | _ => exact w1.elim
theorem pm_meth0 {o : Expr} {c k j : Nat} {mn : Str} {F : FM} {mo : EM} {apos pos : Pos} {pl : Sem Bool} (A : MtAt G X.prog X.w X.K X.mg X.base CX0 c mn k (spN G X.K 1 F)) (hr : Room j X.A) (hk : k ≤ j) (ho : PEm G X W o mo)
    (ht : eval (.Call (.Attribute o mn apos) [] [] pos) X.env = (do
      let ov ← eval o X.env
      standAt apos.atName
      let (f, first) ← holding [ov] (getMethod ov mn pl)
      callWith pos f first (backTo pos (starEach [] X.env)) (backToKw pos (keywordEach [] X.env))) := by rfl) :
    PEm G X W (.Call (.Attribute o mn apos) [] [] pos) (mMeth c 1 F mo mNil) := by
  obtain ⟨f, fd, ps, hF, hm, hb⟩ := A.ex
  refine PE.imp (pe_meth0 (pl := pl) ho A.cls hm hF (hr.mono hk) hb .nil pass0 ht) fun σ H Q q => ?_
  obtain ⟨μ, env, h, r, re, w⟩ := q
  refine ⟨μ, env, h, r, re, (Want.bind w).mp fun t h1 μ1 H1 _ e1 r1 ⟨_, _, w1⟩ v iv => ?_⟩
  cases iv with
  | @ins a dx c' ts vs s nl l =>
    dsimp only at w1
    split at w1
    · next hc =>
      subst hc
      exact ⟨a, dx, _, rfl, s, lookup_zip_none A.no, ⟨μ1, [.ins c' ts], h1, r1, .cons (Is.ins s nl l) .nil, rfl, Want.noX (W := fun c d H' => W c d σ H') w1⟩⟩
    · exact w1.elim
  | _ => exact w1.elim
/-! ### an instance is made: a class whose __init__ only stores its arguments under the names of its fields -/
def spI (G : CT) (c : Nat) : Sp := fun vs H Q _ => ∃ x dx ws, vs = .ref x :: ws ∧ ws.length = (FL c).length ∧ H x = some (.ins (G.cl c) dx []) ∧ Q .non (upd H x (.ins (G.cl c) dx ((FL c).zip ws)))
structure MkAt (G : CT) (P : Program) (w : World) (K : PySem.W.Frag) (mg : Str → Option Value) (base : Heap) (CX : CXT) (x : Str) (c k : Nat) (sp : Sp) : Prop where
  ex : ∃ f fd ps, FnOk P w K mg base CX k f fd ps sp ∧ Mk K (G.cl c) f ∧ Binds K fd ps []
  mg : mg x = some (.ref (G.cl c))
def mMake (c : Nat) (m : EL) : EM := fun env h => (m env h).bind fun ts h1 => if ts.length = (FL c).length then .ok (.ins c ts) h1 else .bad
theorem ext_made {x dx : Addr} {C : Addr} {fs : List (Str × V)} (nx : H x = none) (ndx : H dx = none) (ne : dx ≠ x) : Ext μ H μ (upd (upd (upd H dx (.own x)) x (.ins C dx [])) x (.ins C dx fs)) := by
  have k : ∀ a o, H a = some o → upd (upd (upd H dx (.own x)) x (.ins C dx [])) x (.ins C dx fs) a = some o := fun a o e => by
    rw [upd_ne (ne_of_none e nx), upd_ne (ne_of_none e nx), upd_ne (ne_of_none e ndx)]
    exact e
  exact ⟨⟨[], [], mu_self, (fun _ h => by cases h), fun _ h => by cases h⟩, fun a o e _ => k a o e, fun a e => dom_upd a (dom_upd a (dom_upd a e)), fun a o e _ => k a o e, fun a o _ e => k a o e⟩
theorem pm_make {x : Str} {p pos : Pos} {e : Expr} {es : List Expr} {m : EL} {k j c : Nat} (A : MkAt G X.prog X.w X.K X.mg X.base CX0 x c k (spI G c)) (hr : Room j X.A) (hk : k + 1 ≤ j) (ha : PAm G X W (e :: es) m) (hg : Gl X x := by rfl) (hdb : (x == ("__debug__" : Str)) = false := by decide)
    (he : starEach (e :: es) X.env = (false, eval e X.env) :: starEach es X.env := by rfl) (hpl : (backTo pos (starEach es X.env)).any (·.1) = false := by rfl) : PEm G X W (.Call (.Name x p) (e :: es) [] pos) (mMake c m) := by
  obtain ⟨f, fd, ps, hF, hm, hb⟩ := A.ex
  refine PE.imp (pe_make hm hF (hr.mono hk) hg A.mg hb .nil pass0 ha hdb he hpl) fun σ H Q q => ?_
  obtain ⟨μ, env, h, r, re, w⟩ := q
  refine ⟨μ, env, h, r, re, (Want.bind w).mp fun ts h1 μ1 H1 _ e1 r1 ⟨_, _, w1⟩ vs ivs => ?_⟩
  split at w1
  · next hn =>
    intro y dx ny ndx ne
    refine ⟨y, dx, vs, by rw [List.append_nil], by rw [← ivs.length, hn], upd_same, rfl, ?_⟩
    have ex := ext_made (μ := μ1) (C := G.cl c) (fs := (FL c).zip vs) ny ndx ne
    refine w1 μ1 _ ex ?_ _ (.ins upd_same (by rw [← ivs.length, hn]) (ivs.mono ex))
    exact r1.mono ex fun a o _ e => by
      rw [upd_ne (ne_of_none e ny), upd_ne (ne_of_none e ny), upd_ne (ne_of_none e ndx)]
      exact e
  · exact w1.elim

/-! ### built-ins by values -/
def CbM (G : CT) (K : PySem.W.Frag) (r : List V → Hp → VK → Prop) (f : List T → AH → Option (T × AH)) : Prop := ∀ {μ : Mu} {H : Hp} {h : AH} {ts : List T} {vs : List V} {Q : VK} {a : T} {h' : AH}, RepH G K μ H h → IsL G K μ H ts vs → f ts h = some (a, h') →
  (∀ μ' H' z, Ext μ H μ' H' → RepH G K μ' H' h' → Is G K μ' H' a z → Q z H') → r vs H Q
def mCb (f : List T → AH → Option (T × AH)) (m : EL) : EM := fun env h => (m env h).bind fun ts h1 => Out.of (f ts h1)
theorem te_cb {r : List V → Hp → VK → Prop} {f : List T → AH → Option (T × AH)} {m : EL} (hf : CbM G X.K r f) : ∀ σ H Q, teOf G X.K W (mCb f m) σ H Q → tCB r (taOf G X.K W m) σ H Q := fun σ H Q q => by
  obtain ⟨μ, env, h, r, re, w⟩ := q
  refine ⟨μ, env, h, r, re, (Want.bind w).mp fun ts h1 μ1 H1 _ e1 r1 ⟨_, _, w1⟩ vs ivs => ?_⟩
  cases hh : f ts h1 with
  | none => rw [hh] at w1; exact w1.elim
  | some p =>
    obtain ⟨a, h3⟩ := p
    rw [hh] at w1
    exact hf r1 ivs hh fun μ' H' z e3 r3 i3 => w1 μ' H' e3 r3 z i3
theorem pm_cb {x : Str} {id : String} {r : List V → Hp → VK → Prop} {f : List T → AH → Option (T × AH)} {p pos : Pos} {e : Expr} {es : List Expr} {m : EL} (hc : CallR X (.builtin id) r) (hf : CbM G X.K r f) (hm : X.mg x = none) (ha : PAm G X W (e :: es) m) (hv : bootBuiltins x = some (.builtin id) := by first | rfl | decide +kernel) (hg : Gl X x := by rfl)
    (hn : x ≠ "__name__" := by decide) (hdb : (x == ("__debug__" : Str)) = false := by decide) (he : starEach (e :: es) X.env = (false, eval e X.env) :: starEach es X.env := by rfl) (hpl : (backTo pos (starEach es X.env)).any (·.1) = false := by rfl) :
    PEm G X W (.Call (.Name x p) (e :: es) [] pos) (mCb f m) := PE.imp (pe_callB hc hg hm hv ha hn hdb he hpl) (te_cb hf)
theorem pm_cty {x : Str} {T' : String} {r : List V → Hp → VK → Prop} {f : List T → AH → Option (T × AH)} {p pos : Pos} {e : Expr} {es : List Expr} {m : EL} (hc : CallR X (.type T') r) (hf : CbM G X.K r f) (hm : X.mg x = none) (ha : PAm G X W (e :: es) m) (hv : bootBuiltins x = some (.type T') := by first | rfl | decide +kernel) (hg : Gl X x := by rfl)
    (hn : x ≠ "__name__" := by decide) (hdb : (x == ("__debug__" : Str)) = false := by decide) (he : starEach (e :: es) X.env = (false, eval e X.env) :: starEach es X.env := by rfl) (hpl : (backTo pos (starEach es X.env)).any (·.1) = false := by rfl) :
    PEm G X W (.Call (.Name x p) (e :: es) [] pos) (mCb f m) := PE.imp (pe_callTy hc hg hm hv ha hn hdb he hpl) (te_cb hf)
def cLen : List T → AH → Option (T × AH)
  | [.str x], h => if x.length ≤ sizeLine then some (.int (x.length : Int), h) else none
  | [.tup ts], h => some (.int (ts.length : Int), h)
  | [.scr ns], h => some (.int (ns.length : Int), h)
  | [t], h => match lsT h t with
    | some ts => some (.int (ts.length : Int), h)
    | none => none
  | _, _ => none
theorem cbm_len : CbM G K (fun xs H Q => ∃ x n, xs = [x] ∧ LenV K x H n ∧ Q (.int (n : Int)) H) cLen := fun {μ H h ts vs Q a h'} r l e k => by
  unfold cLen at e
  split at e
  · split at e
    · next hl =>
      cases e
      cases l with
      | cons i1 i2 =>
        cases i1
        cases i2
        exact ⟨_, _, rfl, ⟨hl, rfl⟩, k μ H _ Ext.refl r (.int _)⟩
    · cases e
  · cases e
    cases l with
    | cons i1 i2 =>
      cases i2
      cases i1 with
      | tup s l => exact ⟨_, _, rfl, .inr ⟨_, s, l.length⟩, k μ H _ Ext.refl r (.int _)⟩
  · cases e
    cases l with
    | cons i1 i2 =>
      cases i2
      cases i1 with
      | scr s => exact ⟨_, _, rfl, .inl ⟨_, s.sql, (List.length_map ..).symm⟩, k μ H _ Ext.refl r (.int _)⟩
  · split at e
    · next ts hk =>
      cases e
      cases l with
      | cons i1 i2 =>
        cases i2
        obtain ⟨a, vs, rfl, q2, il⟩ := lsT_ok r i1 hk
        exact ⟨_, _, rfl, .inl ⟨_, SqL.of q2, il.length⟩, k μ H _ Ext.refl r (.int _)⟩
    · cases e
  · cases e
/-- list(xs), tuple(xs) -/
def itemsS (h : AH) : T → Option (List T)
  | .scr ns => some (ns.map .int)
  | t => itemsT h t
theorem itemsS_ok (r : RepH G K μ H h) {t : T} {v : V} {ts : List T} (i : Is G K μ H t v) (e : itemsS h t = some ts) : ∃ p vs, v = .ref p ∧ (SqL K H p vs ∨ SqT K H p vs) ∧ IsL G K μ H ts vs := by
  cases i with
  | @scr a ns s => cases e; exact ⟨a, _, rfl, .inl s.sql, IsL.ints⟩
  | @tup a us vs s l => exact itemsT_ok r (.tup s l) e
  | @lv a us vs z s l => exact itemsT_ok r (.lv z s l) e
  | @obj n a s => exact itemsT_ok r (.obj s) e
  | _ => cases e
def cList : List T → AH → Option (T × AH)
  | [t], h => match itemsS h t with
    | some ts => some (.lv ts, h)
    | none => none
  | _, _ => none
def cListM : List T → AH → Option (T × AH)
  | [t], h => match itemsS h t with
    | some ts => some (.obj h.length, h ++ [.lst ts])
    | none => none
  | _, _ => none
theorem cbm_listM : CbM G K (fun xs H Q => ∃ p ys, xs = [.ref p] ∧ (SqL K H p ys ∨ SqT K H p ys) ∧ ∀ l, H l = none → Q (.ref l) (upd H l (.lst ys))) cListM := fun {μ H h ts vs Q a h'} r l e k => by
  unfold cListM at e
  split at e
  · split at e
    · next us hu =>
      cases e
      cases l with
      | cons i1 i2 =>
        cases i2
        obtain ⟨p, ws, rfl, s, il⟩ := itemsS_ok r i1 hu
        exact ⟨p, ws, rfl, s, fun p hp => k _ _ _ (ext_alloc hp) (r.alloc hp (.lst il)) (.obj (len_alloc r))⟩
    · cases e
  · cases e
theorem cbm_list : CbM G K (fun xs H Q => ∃ p ys, xs = [.ref p] ∧ (SqL K H p ys ∨ SqT K H p ys) ∧ ∀ l, H l = none → Q (.ref l) (upd H l (.lst ys))) cList := fun {μ H h ts vs Q a h'} r l e k => by
  unfold cList at e
  split at e
  · split at e
    · next us hu =>
      cases e
      cases l with
      | cons i1 i2 =>
        cases i2
        obtain ⟨p, ws, rfl, s, il⟩ := itemsS_ok r i1 hu
        exact ⟨p, ws, rfl, s, fun p hp => k _ _ _ (ext_allocZ hp) (r.allocZ hp) (.lvZ hp il)⟩
    · cases e
  · cases e
def cTuple : List T → AH → Option (T × AH)
  | [.tup ts], h => some (.tup ts, h)
  | [t], h => match lsT h t with
    | some ts => some (.tup ts, h)
    | none => none
  | _, _ => none
theorem cbm_tuple : CbM G K (fun xs H Q => ∃ p ys, xs = [.ref p] ∧ ((SqL K H p ys ∧ ∀ l, H l = none → Q (.ref l) (upd H l (.tup ys))) ∨ (SqT K H p ys ∧ Q (.ref p) H))) cTuple := fun {μ H h ts vs Q a h'} r l e k => by
  unfold cTuple at e
  split at e
  · cases e
    cases l with
    | cons i1 i2 =>
      cases i2
      cases i1 with
      | tup s l => exact ⟨_, _, rfl, .inr ⟨s, k μ H _ Ext.refl r (.tup s l)⟩⟩
  · split at e
    · next us hk =>
      cases e
      cases l with
      | cons i1 i2 =>
        cases i2
        obtain ⟨a, vs, rfl, q2, il⟩ := lsT_ok r i1 hk
        exact ⟨_, _, rfl, .inl ⟨SqL.of q2, fun p hp => k _ _ _ (ext_new hp) (r.new hp) (.tup (.inl (.inl upd_same)) (il.mono (ext_new hp)))⟩⟩
    · cases e
  · cases e
def cInt : List T → AH → Option (T × AH)
  | [.int i], h => some (.int i, h)
  | [.bl b], h => some (.int (if b then 1 else 0), h)
  | _, _ => none
theorem cbm_int : CbM G K (fun xs H Q => (∃ i, xs = [.int i] ∧ Q (.int i) H) ∨ ∃ k, xs = [.bl k] ∧ Q (.int (if k then 1 else 0)) H) cInt := fun {μ H h ts vs Q a h'} r l e k => by
  unfold cInt at e
  split at e
  · cases e
    cases l with
    | cons i1 i2 =>
      cases i2
      cases i1
      exact .inl ⟨_, rfl, k μ H _ Ext.refl r (.int _)⟩
  · cases e
    cases l with
    | cons i1 i2 =>
      cases i2
      cases i1
      exact .inr ⟨_, rfl, k μ H _ Ext.refl r (.int _)⟩
  · cases e
def cMax2 : List T → AH → Option (T × AH)
  | [.int i, .int j], h => some (.int (if j > i then j else i), h)
  | _, _ => none
theorem cbm_max2 : CbM G K (fun xs H Q => ∃ i j, xs = [.int i, .int j] ∧ Q (.int (if j > i then j else i)) H) cMax2 := fun {μ H h ts vs Q a h'} r l e k => by
  unfold cMax2 at e
  split at e
  · cases e
    cases l with
    | cons i1 i2 =>
      cases i2 with
      | cons i2 i3 =>
        cases i1
        cases i2
        cases i3
        exact ⟨_, _, rfl, k μ H _ Ext.refl r (.int _)⟩
  · cases e
def cMin2 : List T → AH → Option (T × AH)
  | [.int i, .int j], h => some (.int (if j < i then j else i), h)
  | _, _ => none
theorem cbm_min2 : CbM G K (fun xs H Q => ∃ i j, xs = [.int i, .int j] ∧ Q (.int (if j < i then j else i)) H) cMin2 := fun {μ H h ts vs Q a h'} r l e k => by
  unfold cMin2 at e
  split at e
  · cases e
    cases l with
    | cons i1 i2 =>
      cases i2 with
      | cons i2 i3 =>
        cases i1
        cases i2
        cases i3
        exact ⟨_, _, rfl, k μ H _ Ext.refl r (.int _)⟩
  · cases e
end
end M
namespace M
open PySem L2
section
variable {G : CT} {X : Cx} {W : WX} {K : PySem.W.Frag} {μ : Mu} {H : Hp} {h : AH}

/-! ### list comprehensions -/
def wipeE (env : Env) : List Nat → Env
  | [] => env
  | v :: vs => (wipeE env vs).set v none
theorem RepE.wipes {σ : L2.St} {env : Env} (r : RepE G K μ H σ env) : ∀ vs : List Nat, RepE G K μ H (L2.wipe σ vs) (wipeE env vs)
  | [] => r
  | v :: vs => (RepE.wipes r vs).wipe v
def mYes : EB := fun _ h => .ok true h
def ptsOf (G : CT) (X : Cx) (W : WX) (es : List Expr) (m : EB) : Prop := PTs X es (ttOf G X.K W m)
theorem PTs.imp {es : List Expr} {t t' : TT} (h : PTs X es t) (i : ∀ σ H Q, t' σ H Q → t σ H Q) : PTs X es t' := ⟨fun pins s σ H Q I q => h.run pins s σ H Q I (i σ H Q q)⟩
theorem ptm_nil : ptsOf G X W [] mYes := PTs.imp pts_nil fun σ H Q q => by
  obtain ⟨μ, env, h, r, re, w⟩ := q
  exact Want.now (R := wB Q) r w
theorem ptm_one {c : Expr} {m : EB} (h : PTm G X W c m) : ptsOf G X W [c] m := pts_one h
def compS (s : Src) (g : T → Env → Option Env) (c : EB) (m : EM) (env : Env) : Nat → Nat → List T → AH → Out (List T)
  | 0, _, _, _ => .bad
  | f + 1, i, acc, h => match s.nx i h with
    | none => .bad
    | some none => .ok acc h
    | some (some t) => match g t env with
      | none => .bad
      | some e1 => (c e1 h).bind fun b h1 => if b = true then (m e1 h1).bind fun u h2 => if acc.length < sizeLine then compS s g c m env f (i + 1) (acc ++ [u]) h2 else .bad
        else compS s g c m env f (i + 1) acc h1
def mComp (vs : List Nat) (s : Env → AH → Out Src) (g : T → Env → Option Env) (c : EB) (m : EM) : EM := fun env h => (s env h).bind fun src h1 => (compS src g c m (wipeE env vs) src.fuel 0 [] h1).bind fun ts h2 => .ok (.lv ts) h2
theorem bind_assoc {α β γ : Type} {o : Out α} {f : α → AH → Out β} {g : β → AH → Out γ} : (o.bind f).bind g = o.bind fun a h => (f a h).bind g := by
  cases o <;> rfl
theorem wipe_mem {σ : L2.St} {i : Nat} : ∀ {vs : List Nat}, i ∈ vs → (wipe σ vs)[i]? = (σ[i]?).map fun _ => none
  | [], h => by cases h
  | v :: vs, h => by
    unfold L2.wipe
    by_cases e : v = i
    · subst e
      rw [List.getElem?_set_self']
      have z := wipe_length σ vs
      by_cases hl : v < σ.length
      · rw [List.getElem?_eq_getElem (by rw [z]; exact hl), List.getElem?_eq_getElem hl]
        rfl
      · rw [List.getElem?_eq_none_iff.mpr (by rw [z]; omega), List.getElem?_eq_none_iff.mpr (by omega)]
        rfl
    · rw [List.getElem?_set_ne e]
      rcases List.mem_cons.mp h with z | z
      · exact (e z.symm).elim
      · exact wipe_mem z
theorem wipe_wipe {σ : L2.St} {vs : List Nat} : wipe (wipe σ vs) vs = wipe σ vs := by
  apply List.ext_getElem?
  intro i
  by_cases hi : i ∈ vs
  · rw [wipe_mem hi, wipe_mem hi, Option.map_map]
    rfl
  · rw [wipe_out hi, wipe_out hi]
/-- what stands behind some turns: D, the new list, apart -/
structure CSt (G : CT) (K : PySem.W.Frag) (μ1 : Mu) (H1 : Hp) (D : Addr) (μ : Mu) (H : Hp) (h : AH) (acc : List T) : Prop where
  ext : Ext μ1 H1 μ H
  rep : RepH G K μ H h
  out : D ∉ μ.m
  outz : D ∉ μ.z
  at_ : ∃ vs, H D = some (.lst vs) ∧ IsL G K μ H acc vs
theorem CSt.up {μ1 μ' : Mu} {H1 H' : Hp} {D : Addr} {acc : List T} {h' : AH} (c : CSt G K μ1 H1 D μ H h acc) (e : Ext μ H μ' H') (r : RepH G K μ' H' h') : CSt G K μ1 H1 D μ' H' h' acc := by
  obtain ⟨vs, q, l⟩ := c.at_
  exact ⟨c.ext.trans e, r, e.out q c.out, e.outz q c.outz, vs, e.fr _ _ q c.out, l.mono e⟩
theorem lc_ok {vs : List Nat} {s : Env → AH → Out Src} {g : T → Env → Option Env} {c : EB} {m : EM} : ∀ σ H Q, teOf G X.K W0 (mComp vs s g c m) σ H Q → tLc (tiOf G X.K W0 s) (tgOf G X.K vs g) (ttOf G X.K W0 c) (teOf G X.K W0 m) vs σ H Q := fun σ H Q q => by
  obtain ⟨μ, env, h, r, re, w⟩ := q
  refine ⟨μ, env, h, r, re, (Want.bind w).mp fun src h1 μ1 H1 _ e1 r1 ⟨_, _, w1⟩ J ok D hD => ?_⟩
  have re1 := (re.mono e1).wipes vs
  refine ⟨fun i f H => ∃ μ' h' acc, CSt G X.K μ1 H1 D μ' H h' acc ∧ Want G X.K (fun _ _ _ => False) ((compS src g c m (wipeE env vs) f i acc h').bind fun ts h2 => Out.ok (.lv ts) h2) μ1 H1 (wT G X.K Q),
    ⟨src.fuel, μ1, h1, [], ⟨ext_new hD, r1.new hD, r1.notin hD, r1.notz hD, [], upd_same, .nil⟩, w1⟩, ?_⟩
  rintro i f H' ⟨μ', h', acc, cs, w'⟩
  cases f with
  | zero => exact w'.elim
  | succ f =>
    have z := ok i h' μ' H' cs.ext.toI cs.rep
    unfold compS at w'
    split at w'
    · exact w'.elim
    · next hn =>
      rw [hn] at z
      refine .inl ⟨z, ?_⟩
      obtain ⟨as, q1, l⟩ := cs.at_
      exact w' (μ'.put D) H' (cs.ext.joinZ hD) (cs.rep.joinZ cs.out q1) _ (.lv mem_put q1 (l.monoI extI_joinZ))
    · next t hn =>
      rw [hn] at z
      refine .inr ⟨z.1, fun H => ∃ μ' h' acc, CSt G X.K μ1 H1 D μ' H h' acc ∧ Want G X.K (fun _ _ _ => False) ((compS src g c m (wipeE env vs) f (i + 1) acc h').bind fun ts h2 => Out.ok (.lv ts) h2) μ1 H1 (wT G X.K Q), fun H2 q2 => ⟨f, Nat.lt_succ_self _, q2⟩, ?_⟩
      intro x H'' hy
      obtain ⟨e2, r2, ix⟩ := z.2 x H'' hy
      have c2 := cs.up e2 r2
      cases hg : g t (wipeE env vs) with
      | none => rw [hg] at w'; exact w'.elim
      | some env1 =>
        rw [hg] at w'
        dsimp only at w'
        rw [bind_assoc] at w'
        refine ⟨μ', wipeE env vs, h', t, env1, r2, re1.mono c2.ext, ix, hg, fun σ2 re2 w2 => ⟨w2.trans wipe_wipe, ?_⟩⟩
        refine ⟨μ', env1, h', r2, re2, (Want.up c2.ext w').bind.mp fun b h2 μ3 H3 e3 x3 r3 _ => ?_⟩
        rw [e3] at w'
        have c3 := c2.up x3 r3
        cases b with
        | false => exact ⟨μ3, h2, acc, c3, w'⟩
        | true =>
          rw [show (Out.ok true h2).bind (fun b h1 => ((if b = true then (m env1 h1).bind fun u h2 => if acc.length < sizeLine then compS src g c m (wipeE env vs) f (i + 1) (acc ++ [u]) h2 else .bad
            else compS src g c m (wipeE env vs) f (i + 1) acc h1) : Out (List T)).bind fun ts h2 => Out.ok (T.lv ts) h2) = ((m env1 h2).bind fun u h2 => if acc.length < sizeLine then compS src g c m (wipeE env vs) f (i + 1) (acc ++ [u]) h2 else .bad).bind fun ts h2 => Out.ok (T.lv ts) h2 from rfl, bind_assoc] at w'
          refine ⟨μ3, env1, h2, r3, re2.mono x3, (Want.up c3.ext w').bind.mp fun u h3 μ4 H4 e4 x4 r4 _ y iy => ?_⟩
          rw [e4] at w'
          have c4 := c3.up x4 r4
          obtain ⟨as, q1, l⟩ := c4.at_
          by_cases hl : acc.length < sizeLine
          · rw [show (Out.ok u h3).bind (fun u h2 => ((if acc.length < sizeLine then compS src g c m (wipeE env vs) f (i + 1) (acc ++ [u]) h2 else .bad) : Out (List T)).bind fun ts h2 => Out.ok (T.lv ts) h2) = ((if acc.length < sizeLine then compS src g c m (wipeE env vs) f (i + 1) (acc ++ [u]) h3 else .bad) : Out (List T)).bind fun ts h2 => Out.ok (T.lv ts) h2 from rfl, if_pos hl] at w'
            refine ⟨as, q1, by rw [← l.length]; exact hl, μ4, h3, acc ++ [u], ⟨c4.ext.side hD, r4.side c4.out c4.outz q1 rfl, c4.out, c4.outz, _, upd_same, ?_⟩, w'⟩
            exact (l.append (.one iy)).monoI (extI_side c4.outz q1 rfl)
          · rw [show (Out.ok u h3).bind (fun u h2 => ((if acc.length < sizeLine then compS src g c m (wipeE env vs) f (i + 1) (acc ++ [u]) h2 else .bad) : Out (List T)).bind fun ts h2 => Out.ok (T.lv ts) h2) = ((if acc.length < sizeLine then compS src g c m (wipeE env vs) f (i + 1) (acc ++ [u]) h3 else .bad) : Out (List T)).bind fun ts h2 => Out.ok (T.lv ts) h2 from rfl, if_neg hl] at w'
            exact w'.elim
theorem pm_lc {elt tg iter : Expr} {ifs : List Expr} {scope : Scope} {vs : List Nat} {pos : Pos} {s : Env → AH → Out Src} {g : T → Env → Option Env} {c : EB} {m : EM} (own : List (Str × Nat)) (hc : X.calm = true) (hN : X.N.Nodup) (hi : PIm G X W0 tg iter s) (ok : BlkOk X.N X.env.scope scope own) (hv : own.map (·.2) = vs)
    (hg : ∀ (s : Shared) (H : Hp) (C : Addr) (cl : List (Str × Addr)) (fp : List Addr), PGm G (X.blk s H scope (compEnvC scope cl C X.env) fp) vs tg g)
    (ht : ∀ (s : Shared) (H : Hp) (C : Addr) (cl : List (Str × Addr)) (fp : List Addr), ptsOf G (X.blk s H scope (compEnvC scope cl C X.env) fp) W0 ifs c)
    (he : ∀ (s : Shared) (H : Hp) (C : Addr) (cl : List (Str × Addr)) (fp : List Addr), PEm G (X.blk s H scope (compEnvC scope cl C X.env) fp) W0 elt m) (hs : ∀ x, foldedSetIterable iter X.env x = pure x := by intro _; rfl) :
    PEm G X W0 (.ListComp elt [⟨tg, iter, ifs, 0⟩] scope pos) (mComp vs s g c m) := by
  subst hv
  exact PE.imp (pe_lc (wi := tiOf G X.K W0 s) (g := tgOf G X.K _ g) (tt := ttOf G X.K W0 c) (te := teOf G X.K W0 m) hc hN hi ok hg ht he hs) lc_ok
/-- what raises nothing, where something else may -/
theorem pm_lift {e : Expr} {m : EM} (he : PEm G X W0 e m) : PEm G X W e (fun env h => (m env h).noX) := PE.imp he fun σ H Q q => by
  obtain ⟨μ, env, h, r, re, w⟩ := q
  exact ⟨μ, env, h, r, re, Want.noX w⟩
end
end M
namespace M
open PySem L2
section
variable {κ : Type} [DecidableEq κ]
def valT (kts : List (κ × T)) (k : κ) : Option T := (kts.find? fun kt => decide (kt.1 = k)).map (·.2)
def putT (kts : List (κ × T)) (k : κ) (t : T) : List (κ × T) :=
  if (kts.any fun kt => decide (kt.1 = k)) = true then kts.map (fun kt => if kt.1 = k then (kt.1, t) else kt) else kts ++ [(k, t)]
section
variable {G : CT} {K : PySem.W.Frag} {μ : Mu} {H : Hp}
theorem IsK.length : ∀ {kts : List (κ × T)} {kvs : List (κ × V)}, IsK G K μ H kts kvs → kts.length = kvs.length
  | _, _, .nil => rfl
  | _, _, .cons _ l => by rw [List.length_cons, List.length_cons, IsK.length l]
theorem IsK.keys : ∀ {kts : List (κ × T)} {kvs : List (κ × V)}, IsK G K μ H kts kvs → kts.map (·.1) = kvs.map (·.1)
  | _, _, .nil => rfl
  | _, _, .cons _ l => by rw [List.map_cons, List.map_cons, IsK.keys l]
theorem IsK.val {k : κ} : ∀ {kts : List (κ × T)} {kvs : List (κ × V)}, IsK G K μ H kts kvs → match valT kts k with
    | none => valV kvs k = none
    | some t => ∃ v, valV kvs k = some v ∧ Is G K μ H t v
  | _, _, .nil => rfl
  | (k', t) :: kts, (_, v) :: kvs, .cons i l => by
    by_cases e : k' = k
    · rw [show valT ((k', t) :: kts) k = some t by simp [valT, List.find?_cons, e]]
      exact ⟨v, valV_pos e, i⟩
    · rw [show valT ((k', t) :: kts) k = valT kts k by simp [valT, List.find?_cons, e]]
      have z := IsK.val (k := k) l
      rw [valV_neg (p := (k', v)) e]
      exact z
theorem IsK.any_key {k : κ} : ∀ {kts : List (κ × T)} {kvs : List (κ × V)}, IsK G K μ H kts kvs → (kts.any fun kt => decide (kt.1 = k)) = (kvs.any fun kt => decide (kt.1 = k))
  | _, _, .nil => rfl
  | _, _, .cons _ l => by rw [List.any_cons, List.any_cons, IsK.any_key l]
theorem IsK.mapPut {k : κ} {t : T} {v : V} (i : Is G K μ H t v) : ∀ {kts : List (κ × T)} {kvs : List (κ × V)}, IsK G K μ H kts kvs → IsK G K μ H (kts.map fun kt => if kt.1 = k then (kt.1, t) else kt) (kvs.map fun kv => if kv.1 = k then (kv.1, v) else kv)
  | _, _, .nil => .nil
  | (k', t') :: kts, (_, v') :: kvs, .cons i' l => by
    rw [List.map_cons, List.map_cons]
    by_cases e : k' = k
    · rw [if_pos e, if_pos e]
      exact .cons i (IsK.mapPut i l)
    · rw [if_neg e, if_neg e]
      exact .cons i' (IsK.mapPut i l)
theorem IsK.app {k : κ} {t : T} {v : V} (i : Is G K μ H t v) : ∀ {kts : List (κ × T)} {kvs : List (κ × V)}, IsK G K μ H kts kvs → IsK G K μ H (kts ++ [(k, t)]) (kvs ++ [(k, v)])
  | _, _, .nil => .cons i .nil
  | _, _, .cons i' l => .cons i' (IsK.app i l)
theorem IsK.put {k : κ} {t : T} {v : V} {kts : List (κ × T)} {kvs : List (κ × V)} (l : IsK G K μ H kts kvs) (i : Is G K μ H t v) : IsK G K μ H (putT kts k t) (putK kvs k v) := by
  unfold putT putK
  rw [l.any_key (k := k)]
  split
  · exact l.mapPut i
  · exact l.app i
end
end
/-- a value as a key -/
def keyT : T → Option Key
  | .int i => some (.inl i) | .str x => some (.inr x) | _ => none
section
variable {G : CT} {X : Cx} {W : WX} {K : PySem.W.Frag} {μ : Mu} {H : Hp} {h : AH}
theorem keyT_ok {t : T} {v : V} {k : Key} (i : Is G K μ H t v) (e : keyT t = some k) : v = kV k := by
  cases i <;> cases e <;> rfl
/-- a dict by its number -/
def dictT (h : AH) : T → Option (List (Key × T))
  | .obj n => match h[n]? with
    | some (.dK kts) => some kts
    | _ => none
  | _ => none
theorem dictT_ok (r : RepH G K μ H h) {t : T} {v : V} {kts : List (Key × T)} (i : Is G K μ H t v) (e : dictT h t = some kts) : ∃ n a kvs, t = .obj n ∧ v = .ref a ∧ μ.m[n]? = some a ∧ h[n]? = some (.dK kts) ∧ H a = some (.dK kvs) ∧ IsK G K μ H kts kvs := by
  cases i with
  | @obj n a s =>
    unfold dictT at e
    dsimp only at e
    split at e
    · next us hk =>
      cases e
      obtain ⟨a', o, q1, q2, q3⟩ := r.get hk
      rw [s] at q1
      cases q1
      cases q3 with
      | dK l => exact ⟨n, a, _, rfl, rfl, s, hk, q2, l⟩
    · cases e
  | _ => cases e
theorem IsK.zip {κ : Type} : ∀ {ks : List κ} {ts : List T} {vs : List V}, ks.length = vs.length → IsL G K μ H ts vs → IsK G K μ H (ks.zip ts) (ks.zip vs)
  | [], _, _, _, _ => .nil
  | k :: ks, _, _, n, .cons a b => .cons a (IsK.zip (by simpa using n) b)
  | _ :: _, _, _, n, .nil => by cases n
/-- a dict by its number, or kept for good -/
def dictR (h : AH) : T → Option (List (Key × T))
  | .dv ks ts => some (ks.zip ts)
  | t => dictT h t
theorem dictR_ok (r : RepH G K μ H h) {t : T} {v : V} {kts : List (Key × T)} (i : Is G K μ H t v) (e : dictR h t = some kts) : ∃ a kvs, v = .ref a ∧ H a = some (.dK kvs) ∧ IsK G K μ H kts kvs := by
  unfold dictR at e
  split at e
  · cases e
    cases i with
    | dv z s n l => exact ⟨_, _, rfl, s, IsK.zip n l⟩
  · obtain ⟨n, a, kvs, _, rfl, _, _, ha, l⟩ := dictT_ok r i e
    exact ⟨a, kvs, rfl, ha, l⟩
/-- {} -/
def mDict0 : EM := fun _ h => .ok (.obj h.length) (h ++ [.dK []])
theorem pm_dict0 {pos : Pos} : PEm G X W (.Dict [] [] pos) mDict0 := PE.imp pe_dnewK fun σ H Q q => by
  obtain ⟨μ, env, h, r, re, w⟩ := q
  exact fun p hp => w _ _ (ext_alloc hp) (r.alloc hp (.dK .nil)) _ (.obj (len_alloc r))
/-- {k: v}, one pair -/
def mDict1 (mk mv : EM) : EM := fun env h => (mk env h).bind fun k h1 => (mv env h1).bind fun v h2 => match keyT k with
  | some k => .ok (.obj h2.length) (h2 ++ [.dK [(k, v)]])
  | none => .bad
theorem pm_dict1 {k v : Expr} {pos : Pos} {mk mv : EM} (hk : PEm G X W0 k mk) (hv : PEm G X W0 v mv) : PEm G X W0 (.Dict [some k] [v] pos) (mDict1 mk mv) :=
  PE.imp (pe_disp (pps_cons hk hv pps_nil) rfl rfl (fun z => by cases z) (by show 1 ≤ 15; decide)) fun σ H Q q => by
    obtain ⟨μ, env, h, r, re, w⟩ := q
    intro p hp
    refine ⟨μ, env, h, r.new hp, re.mono (ext_new hp), (Want.bind (w.up (ext_new hp))).mp fun t h1 μ1 H1 q1 e1 r1 ⟨_, _, w1⟩ x ix => ?_⟩
    refine ⟨μ1, env, h1, r1, (re.mono (ext_new hp)).mono e1, (Want.bind w1).mp fun u h2 μ2 H2 q2 e2 r2 _ y iy => ?_⟩
    have w3 : Want G X.K (fun _ _ _ => False) (match keyT t with
      | some k => Out.ok (T.obj h2.length) (h2 ++ [.dK [(k, u)]])
      | none => .bad) μ H (wT G X.K Q) := by
      have z := w
      unfold mDict1 at z
      rw [q1] at z
      have z' : Want G X.K (fun _ _ _ => False) ((mv env h1).bind fun v h2 => match keyT t with
        | some k => Out.ok (T.obj h2.length) (h2 ++ [.dK [(k, v)]])
        | none => .bad) μ H (wT G X.K Q) := z
      rw [q2] at z'
      exact z'
    have e0 : Ext μ H μ1 H1 := (ext_new hp).trans e1
    have e02 : Ext μ H μ2 H2 := e0.trans e2
    have nm1 : p ∉ μ1.m := e1.out upd_same (r.notin hp)
    have nz1 : p ∉ μ1.z := e1.outz upd_same (r.notz hp)
    have hp1 : H1 p = some (.dK []) := e1.fr _ _ upd_same (r.notin hp)
    have nm2 : p ∉ μ2.m := e2.out hp1 nm1
    have nz2 : p ∉ μ2.z := e2.outz hp1 nz1
    have hp2 : H2 p = some (.dK []) := e2.fr _ _ hp1 nm1
    split at w3
    · next k hk =>
      refine ⟨hp2, [(k, y)], ?_, (by show 1 ≤ 15; decide), ?_⟩
      · show [(x, y)] = [(kV k, y)]
        rw [keyT_ok ix hk]
      · have em : mergeK [] [(k, y)] = [(k, y)] := by
          show putK [] k y = _
          unfold putK
          rfl
        rw [em]
        refine w3 (μ2.add p) _ ((e02.side hp).join hp) ((r2.side nm2 nz2 hp2 rfl).join nm2 nz2 upd_same (.dK (.cons (iy.monoI (extI_side nz2 hp2 rfl)) .nil))) _ (.obj (len_alloc r2))
    · exact w3.elim
/-- d[k] -/
def fDGet : T → T → AH → Option (T × AH) := fun d k h => match dictR h d, keyT k with
  | some kts, some k => match valT kts k with
    | some t => some (t, h)
    | none => none
  | _, _ => none
theorem pm_dget {o i : Expr} {m n : EM} {pos : Pos} (hu : X.A.units + 1 < cLine) (ho : PEm G X W o m) (hi : PEm G X W i n) (hs : NoSl i := by intro _ _; rfl) : PEm G X W (.Subscript o i pos) (mOp fDGet m n) :=
  PE.imp (pe_dget hu ho hi hs) (te_op (r := fun x y H Q => ∃ a v, x = .ref a ∧ DGet H a y (some v) ∧ Q v H) fun {μ H h t u v w Q z h'} rh i j e k => by
    unfold fDGet at e
    split at e
    · next kts ky h1 h2 =>
      split at e
      · next y hy =>
        cases e
        obtain ⟨a, kvs, rfl, ha, l⟩ := dictR_ok rh i h1
        have z := l.val (k := ky)
        rw [hy] at z
        obtain ⟨v', e1, iv⟩ := z
        refine ⟨a, v', rfl, .inl ⟨kvs, ky, .inl ha, keyT_ok j h2, e1.symm⟩, k μ H _ Ext.refl rh iv⟩
      · cases e
    · cases e)
/-- k in d, k not in d -/
def fDIn (neg : Bool) : T → T → AH → Option Bool := fun k d h => match dictR h d, keyT k with
  | some kts, some k => some (if neg then !(valT kts k).isSome else (valT kts k).isSome)
  | _, _ => none
theorem din_ok {neg : Bool} {t u : T} {v w : V} {b : Bool} (rh : RepH G K μ H h) (i : Is G K μ H t v) (j : Is G K μ H u w) (e : fDIn neg t u h = some b) : ∃ a o, w = .ref a ∧ DGet H a v o ∧ b = (if neg then !o.isSome else o.isSome) := by
  unfold fDIn at e
  split at e
  · next kts ky h1 h2 =>
    cases e
    obtain ⟨a, kvs, rfl, ha, l⟩ := dictR_ok rh j h1
    have z := l.val (k := ky)
    refine ⟨a, valV kvs ky, rfl, .inl ⟨kvs, ky, .inl ha, keyT_ok i h2, rfl⟩, ?_⟩
    split at z
    · next hn => rw [hn, z]; rfl
    · next y hy =>
      obtain ⟨v', e1, _⟩ := z
      rw [hy, e1]
      rfl
  · cases e
theorem cmm_din : CmM G K (fun y x H Q => ∃ a o, x = .ref a ∧ DGet H a y o ∧ Q (.bl o.isSome) H) (fDIn false) := fun {μ H h t u v w Q b} rh i j e k => by
  obtain ⟨a, o, e1, e2, e3⟩ := din_ok rh i j e
  subst e3
  exact ⟨a, o, e1, e2, k⟩
theorem cmm_dnotin : CmM G K (fun y x H Q => ∃ a o, x = .ref a ∧ DGet H a y o ∧ Q (.bl (!o.isSome)) H) (fDIn true) := fun {μ H h t u v w Q b} rh i j e k => by
  obtain ⟨a, o, e1, e2, e3⟩ := din_ok rh i j e
  subst e3
  exact ⟨a, o, e1, e2, k⟩
theorem pm_din {i o : Expr} {m n : EM} {pos : Pos} (hu : X.A.units + 1 < cLine) (hi : PEm G X W i m) (ho : PEm G X W o n) (h1 : behindInMarks .In o = false := by rfl) : PEm G X W (.Compare i [.In] [o] pos) (mCmp (fDIn false) m n) :=
  PE.imp (pe_cmp (pc_din hu hi ho) h1) (te_op cmm_din.op)
theorem pm_dnotin {i o : Expr} {m n : EM} {pos : Pos} (hu : X.A.units + 1 < cLine) (hi : PEm G X W i m) (ho : PEm G X W o n) (h1 : behindInMarks .NotIn o = false := by rfl) : PEm G X W (.Compare i [.NotIn] [o] pos) (mCmp (fDIn true) m n) :=
  PE.imp (pe_cmp (pc_dnotin hu hi ho) h1) (te_op cmm_dnotin.op)
theorem te_cmpT {r : R2} {f : T → T → AH → Option Bool} {m n : EM} (hf : CmM G X.K r f) : ∀ σ H (Q : Bool → Hp → Prop), ttOf G X.K W (mCmpT f m n) σ H Q → tOp r (teOf G X.K W m) (teOf G X.K W n) σ H (fun x H1 => ∃ c, x = .bl c ∧ Q c H1) := fun σ H Q q => by
  obtain ⟨μ, env, h, r, re, w⟩ := q
  refine ⟨μ, env, h, r, re, (Want.bind w).mp fun t h1 μ1 H1 _ e1 r1 ⟨_, _, w1⟩ v iv => ?_⟩
  refine ⟨μ1, env, h1, r1, re.mono e1, (Want.bind w1).mp fun u h2 μ2 H2 _ e2 r2 ⟨_, _, w2⟩ y iy => ?_⟩
  cases hh : f t u h2 with
  | none => rw [hh] at w2; exact w2.elim
  | some p =>
    rw [hh] at w2
    exact hf r2 (iv.mono e2) iy hh ⟨p, rfl, Want.now (R := wB Q) r2 w2⟩
theorem ptm_din {i o : Expr} {m n : EM} {pos : Pos} (hu : X.A.units + 1 < cLine) (hi : PEm G X W i m) (ho : PEm G X W o n) (h1 : behindInMarks .In o = false := by rfl) : PTm G X W (.Compare i [.In] [o] pos) (mCmpT (fDIn false) m n) :=
  PT.imp (pt_cmp (pc_din hu hi ho) h1) (te_cmpT cmm_din)
theorem ptm_dnotin {i o : Expr} {m n : EM} {pos : Pos} (hu : X.A.units + 1 < cLine) (hi : PEm G X W i m) (ho : PEm G X W o n) (h1 : behindInMarks .NotIn o = false := by rfl) : PTm G X W (.Compare i [.NotIn] [o] pos) (mCmpT (fDIn true) m n) :=
  PT.imp (pt_cmp (pc_dnotin hu hi ho) h1) (te_cmpT cmm_dnotin)
/-- d[k] = v -/
def mDPut (mv mo mk : EM) : SM := fun env h => (mv env h).st env fun v h1 => (mo env h1).st env fun d h2 => (mk env h2).st env fun k h3 => match d, keyT k with
  | .obj n, some k => match h3[n]? with
    | some (.dK kts) => if kts.length < sizeLine then .nx env (h3.set n (.dK (putT kts k v))) else .bad
    | _ => .bad
  | _, _ => .bad
theorem psm_dput {o i value : Expr} {mv mo mk : EM} {pos pos' : Pos} (hu : X.A.units + 1 < cLine) (ho : PEm G X W o mo) (hi : PEm G X W i mk) (hv : PEm G X W value mv) (hs : swapsWith value (some (.Subscript o i pos')) pos.line X.env = pure false := by rfl) :
    PSm G X W (.Assign [.Subscript o i pos'] value pos) (mDPut mv mo mk) := PS.imp (ps_dput hu ho hi hv hs) fun D σ H q => by
  obtain ⟨μ, env, h, r, re, w⟩ := q
  refine ⟨μ, env, h, r, re, (WantS.expr re w).mp fun t h1 μ1 H1 _ e1 r1 ⟨_, _, w1⟩ v iv => ?_⟩
  refine ⟨μ1, env, h1, r1, re.mono e1, (WantS.expr (re.mono e1) w1).mp fun d h2 μ2 H2 _ e2 r2 ⟨_, _, w2⟩ x ix => ?_⟩
  refine ⟨μ2, env, h2, r2, (re.mono e1).mono e2, (WantS.expr ((re.mono e1).mono e2) w2).mp fun k h3 μ3 H3 _ e3 r3 ⟨_, _, w3⟩ y iy => ?_⟩
  have ix3 := ix.mono e3
  have iv3 := (iv.mono e2).mono e3
  cases ix3 with
  | @obj n a s =>
    cases hk : keyT k with
    | none => rw [hk] at w3; exact w3.elim
    | some ky =>
      rw [hk] at w3
      dsimp only at w3
      split at w3
      · next kts hh =>
        split at w3
        · next hl =>
          obtain ⟨a', o, q1, q2, q3⟩ := r3.get hh
          rw [s] at q1
          cases q1
          cases q3 with
          | @dK _ kvs l =>
            refine ⟨a, _, rfl, .inl ⟨kvs, ky, q2, keyT_ok iy hk, by rw [← l.length]; exact hl, rfl⟩, ?_⟩
            have ex := ext_write (o := .dK (putK kvs ky v)) r3 s q2 rfl
            exact w3 μ3 σ _ ex (r3.write s q2 rfl (.dK (l.put iv3))) ((((re.mono e1).mono e2).mono e3).mono ex)
        · exact w3.elim
      · exact w3.elim
  | _ => exact w3.elim
/-- xs[i] = v, xs a list -/
def mLPut (mv mo mk : EM) : SM := fun env h => (mv env h).st env fun v h1 => (mo env h1).st env fun d h2 => (mk env h2).st env fun k h3 => match d, k with
  | .obj n, .int i => match h3[n]? with
    | some (.lst ts) => match ixN ts.length i with
      | some j => .nx env (h3.set n (.lst (ts.set j v)))
      | none => .bad
    | _ => .bad
  | _, _ => .bad
theorem psm_lput {o i value : Expr} {mv mo mk : EM} {pos pos' : Pos} (ho : PEm G X W o mo) (hi : PEm G X W i mk) (hv : PEm G X W value mv) (hs : swapsWithSole [.Subscript o i pos'] value pos.line X.env = pure false := by rfl) (hw : swappedStores [.Subscript o i pos'] value X.env = pure none := by rfl)
    (h1 : (assignEach [.Subscript o i pos'] X.env).map (·.2) = [assign (.Subscript o i pos') X.env] := by rfl)
    (ha : ∀ v, assign (.Subscript o i pos') X.env v = (do
      let ov ← holding [v] (eval o X.env)
      let iv ← holding [v, ov] (eval i X.env)
      standAt pos'
      holding [v, ov, iv] (setItem ov iv v)
      release [v, ov, iv] []) := by intro _; rfl) :
    PSm G X W (.Assign [.Subscript o i pos'] value pos) (mLPut mv mo mk) := PS.imp (ps_asg hv (pg_sub ho hi set_list ha) hs hw h1) fun D σ H q => by
  obtain ⟨μ, env, h, r, re, w⟩ := q
  refine ⟨μ, env, h, r, re, (WantS.expr re w).mp fun t h1 μ1 H1 _ e1 r1 ⟨_, _, w1⟩ v iv => ?_⟩
  refine ⟨μ1, env, h1, r1, re.mono e1, (WantS.expr (re.mono e1) w1).mp fun d h2 μ2 H2 _ e2 r2 ⟨_, _, w2⟩ x ix => ?_⟩
  refine ⟨μ2, env, h2, r2, (re.mono e1).mono e2, (WantS.expr ((re.mono e1).mono e2) w2).mp fun k h3 μ3 H3 _ e3 r3 ⟨_, _, w3⟩ y iy => ?_⟩
  have ix3 := ix.mono e3
  have iv3 := (iv.mono e2).mono e3
  cases ix3 with
  | @obj n a s =>
    cases iy with
    | int z =>
      dsimp only at w3
      split at w3
      · next ts hh =>
        split at w3
        · next j hj =>
            obtain ⟨a', o, q1, q2, q3⟩ := r3.get hh
            rw [s] at q1
            cases q1
            cases q3 with
            | @lst _ vs l =>
              refine ⟨a, vs, z, j, rfl, rfl, q2, by rw [← l.length]; exact hj, ?_⟩
              have ex := ext_write (o := .lst (vs.set j v)) r3 s q2 rfl
              exact w3 μ3 σ _ ex (r3.write s q2 rfl (.lst (l.set iv3 j))) ((((re.mono e1).mono e2).mono e3).mono ex)
        · exact w3.elim
      · exact w3.elim
    | _ => exact w3.elim
  | _ => exact w3.elim

/-! ### methods of lists -/
def MtMm (G : CT) (K : PySem.W.Frag) (r : V → List V → Hp → VK → Prop) (f : T → List T → AH → Option (T × AH)) : Prop := ∀ {μ : Mu} {H : Hp} {h : AH} {t : T} {v : V} {ts : List T} {vs : List V} {Q : VK} {a : T} {h' : AH}, RepH G K μ H h → Is G K μ H t v → IsL G K μ H ts vs → f t ts h = some (a, h') →
  (∀ μ' H' z, Ext μ H μ' H' → RepH G K μ' H' h' → Is G K μ' H' a z → Q z H') → r v vs H Q
/-- the receiver's list -/
def lstT (h : AH) : T → Option (List T)
  | .obj n => match h[n]? with
    | some (.lst ts) => some ts
    | _ => none
  | _ => none
theorem lstT_ok (r : RepH G K μ H h) {t : T} {v : V} {ts : List T} (i : Is G K μ H t v) (e : lstT h t = some ts) : ∃ n a vs, t = .obj n ∧ v = .ref a ∧ μ.m[n]? = some a ∧ h[n]? = some (.lst ts) ∧ H a = some (.lst vs) ∧ IsL G K μ H ts vs := by
  cases i with
  | @obj n a s =>
    unfold lstT at e
    dsimp only at e
    split at e
    · next us hk =>
      cases e
      obtain ⟨a', o, q1, q2, q3⟩ := r.get hk
      rw [s] at q1
      cases q1
      cases q3 with
      | lst l => exact ⟨n, a, _, rfl, rfl, s, hk, q2, l⟩
    · cases e
  | _ => cases e
def mLm (f : T → List T → AH → Option (T × AH)) (mo : EM) (m : EL) : EM := fun env h => (mo env h).bind fun t h1 => match lstT h1 t with
  | some _ => (m env h1).bind fun ts h2 => Out.of (f t ts h2)
  | none => .bad
theorem pm_lm {o e : Expr} {es : List Expr} {mo : EM} {m : EL} {name : Str} {id : String} {apos cpos : Pos} {r : V → List V → Hp → VK → Prop} {f : T → List T → AH → Option (T × AH)} (slot : Slot "list" name id) (hty : typeOf (.builtin id) = pure (.type "method_descriptor")) (hm : MtM X id r) (hf : MtMm G X.K r f)
    (ho : PEm G X W o mo) (ha : PAm G X W (e :: es) m)
    (hbase : attributeBase o name X.env (eval o X.env) = eval o X.env := by rfl)
    (hfew : ((backTo cpos (starEach (e :: es) X.env)).all (fun x => !x.1) && (backToKw cpos (keywordEach [] X.env)).all (fun x => x.1.isSome)
      && decide ((e :: es).length + ([] : List Keyword).length + (if ([] : List Keyword).isEmpty then 0 else 1) < 30)) = true := by rfl)
    (hline : (apos.endLine == cpos.line) = true := by rfl) (hs : starEach (e :: es) X.env = (false, eval e X.env) :: starEach es X.env := by rfl) (hplain : (backTo cpos (starEach es X.env)).any (·.1) = false := by rfl) :
    PEm G X W (.Call (.Attribute o name apos) (e :: es) [] cpos) (mLm f mo m) :=
  PE.imp (pe_bm PySem.F.plainAttrs_list slot hty hm ho ha hbase hfew hline hs hplain) fun σ H Q q => by
    obtain ⟨μ, env, h, r, re, w⟩ := q
    refine ⟨μ, env, h, r, re, (Want.bind w).mp fun t h1 μ1 H1 _ e1 r1 ⟨_, _, w1⟩ v iv => ?_⟩
    split at w1
    · next us hu =>
      obtain ⟨n, a, vs, rfl, rfl, s, hk, q2, l⟩ := lstT_ok r1 iv hu
      refine ⟨.inl ⟨rfl, vs, SqL.of q2⟩, μ1, env, h1, r1, re.mono e1, (Want.bind w1).mp fun ts h2 μ2 H2 _ e2 r2 ⟨_, _, w2⟩ ws iws => ?_⟩
      cases hh : f (.obj n) ts h2 with
      | none => rw [hh] at w2; exact w2.elim
      | some p =>
        obtain ⟨x, h3⟩ := p
        rw [hh] at w2
        exact hf r2 (iv.mono e2) iws hh fun μ' H' z e3 r3 i3 => w2 μ' H' e3 r3 z i3
    · exact w1.elim
theorem pm_lm0 {o : Expr} {mo : EM} {name : Str} {id : String} {apos cpos : Pos} {r : V → List V → Hp → VK → Prop} {f : T → List T → AH → Option (T × AH)} (slot : Slot "list" name id) (hty : typeOf (.builtin id) = pure (.type "method_descriptor")) (hm : MtM X id r) (hf : MtMm G X.K r f)
    (ho : PEm G X W o mo) (hbase : attributeBase o name X.env (eval o X.env) = eval o X.env := by rfl) (hline : (apos.endLine == cpos.line) = true := by rfl) :
    PEm G X W (.Call (.Attribute o name apos) [] [] cpos) (mLm f mo mNil) :=
  PE.imp (pe_bm0 PySem.F.plainAttrs_list slot hty hm ho hbase hline) fun σ H Q q => by
    obtain ⟨μ, env, h, r, re, w⟩ := q
    refine ⟨μ, env, h, r, re, (Want.bind w).mp fun t h1 μ1 H1 _ e1 r1 ⟨_, _, w1⟩ v iv => ?_⟩
    split at w1
    · next us hu =>
      obtain ⟨n, a, vs, rfl, rfl, s, hk, q2, l⟩ := lstT_ok r1 iv hu
      refine ⟨.inl ⟨rfl, vs, SqL.of q2⟩, ?_⟩
      have w2 : Want G X.K (fun c d H' => W c d σ H') (Out.of (f (.obj n) [] h1)) μ1 H1 (wT G X.K Q) := w1
      cases hh : f (.obj n) [] h1 with
      | none => rw [hh] at w2; exact w2.elim
      | some p =>
        obtain ⟨x, h3⟩ := p
        rw [hh] at w2
        exact hf r1 iv .nil hh fun μ' H' z e3 r3 i3 => w2 μ' H' e3 r3 z i3
    · exact w1.elim
def lAppend : T → List T → AH → Option (T × AH)
  | .obj n, [t], h => match h[n]? with
    | some (.lst ts) => if ts.length < sizeLine then some (.non, h.set n (.lst (ts ++ [t]))) else none
    | _ => none
  | _, _, _ => none
theorem mtm_append : MtMm G K rAppend lAppend := fun {μ H h t v ts vs Q a h'} r i l e k => by
  unfold lAppend at e
  split at e
  · split at e
    · next us hk =>
      split at e
      · next hl =>
        cases e
        cases i with
        | obj s =>
          cases l with
          | cons i1 i2 =>
            cases i2
            obtain ⟨a', o, q1, q2, q3⟩ := r.get hk
            rw [s] at q1
            cases q1
            cases q3 with
            | lst l =>
              refine ⟨_, _, _, rfl, rfl, q2, by rw [← l.length]; exact hl, ?_⟩
              exact k μ _ _ (ext_write r s q2 rfl) (r.write s q2 rfl (.lst (l.append (.one i1)))) .non
      · cases e
    · cases e
  · cases e
def lPop : T → List T → AH → Option (T × AH)
  | .obj n, [], h => match h[n]? with
    | some (.lst ts) => match ts[ts.length - 1]? with
      | some t => some (t, h.set n (.lst ts.dropLast))
      | none => none
    | _ => none
  | _, _, _ => none
theorem mtm_pop : MtMm G K rPop lPop := fun {μ H h t v ts vs Q a h'} r i l e k => by
  unfold lPop at e
  split at e
  · split at e
    · next us hk =>
      split at e
      · next y hy =>
        cases e
        cases i with
        | obj s =>
          cases l
          obtain ⟨a', o, q1, q2, q3⟩ := r.get hk
          rw [s] at q1
          cases q1
          cases q3 with
          | lst l =>
            obtain ⟨z, hz, iz⟩ := l.get hy
            refine ⟨_, _, z, rfl, rfl, q2, by rw [← l.length]; exact hz, ?_⟩
            exact k μ _ _ (ext_write r s q2 rfl) (r.write s q2 rfl (.lst l.dropLast)) (iz.mono (ext_write r s q2 rfl))
      · cases e
    · cases e
  · cases e
theorem pm_append {o e : Expr} {mo m : EM} {apos cpos : Pos} (ho : PEm G X W o mo) (ha : PEm G X W e m)
    (hbase : attributeBase o "append" X.env (eval o X.env) = eval o X.env := by rfl)
    (hfew : ((backTo cpos (starEach [e] X.env)).all (fun x => !x.1) && (backToKw cpos (keywordEach [] X.env)).all (fun x => x.1.isSome)
      && decide ([e].length + ([] : List Keyword).length + (if ([] : List Keyword).isEmpty then 0 else 1) < 30)) = true := by rfl)
    (hline : (apos.endLine == cpos.line) = true := by rfl) (hs : starEach [e] X.env = (false, eval e X.env) :: starEach [] X.env := by rfl) : PEm G X W (.Call (.Attribute o "append" apos) [e] [] cpos) (mLm lAppend mo (mCons m mNil)) :=
  pm_lm PySem.F.slot_list_append PySem.F.type_list_append mt_append mtm_append ho (pam_cons ha pam_nil hs) hbase hfew hline hs
theorem pm_pop {o : Expr} {mo : EM} {apos cpos : Pos} (ho : PEm G X W o mo) (hbase : attributeBase o "pop" X.env (eval o X.env) = eval o X.env := by rfl) (hline : (apos.endLine == cpos.line) = true := by rfl) : PEm G X W (.Call (.Attribute o "pop" apos) [] [] cpos) (mLm lPop mo mNil) :=
  pm_lm0 PySem.F.slot_list_pop PySem.F.type_list_pop mt_pop mtm_pop ho hbase hline
end
end M
namespace PySem
open PyProof
section
variable {prog : Program} {w : World} {A : Around} {E : Value → Shared → Prop} {s : Shared} {l : Addr} {xs : Array (Int × Tok)}
theorem max_intTup {Q : Value → Shared → Prop} (hh : A.handled = none) (hl : s.heap.IsTuple l (intItems xs)) (hne : 0 < xs.size)
    (h : ∀ v h' tk, (intItems xs)[argBest (fun i j => decide (numAt xs i > numAt xs j)) (xs.size - 1)]? = some v → (∀ b o, s.heap.get? b = some o → h'.get? b = some o) → Q v { s with heap := h', toks := tk }) :
    wpAny (model prog w) A (call (.builtin "max") [.ref l]) Q E s := by
  have hlt : l < s.heap.objs.size := by obtain ⟨_, e, _⟩ := hl; exact Heap.lt_size e
  refine call_max_walk (wpAny_pyIter_tuple hl ?_)
  refine ⟨_, [s.heap.objs.size, l], [s.heap.objs.size], _, _, _, _, rfl, Walks.tuple (A := A.in1) hh _ l (Nat.ne_of_lt hlt) (intItems xs), ⟨⟨_, Heap.get?_push_size _ rfl, rfl, rfl⟩, hl.push _⟩, fun b hb => ?_, by simpa [intItems] using hne, CmpOf.ints_gt (numAt xs) (fun _ _ => intItems_at), fun v h' tk hP hk => ?_⟩
  · show b < (s.heap.push _).objs.size
    rw [Heap.size_push]
    rcases List.mem_cons.mp hb with rfl | hb
    · exact Nat.lt_succ_self _
    · rcases List.mem_cons.mp hb with rfl | hb
      · exact Nat.lt_succ_of_lt hlt
      · cases hb
  · refine h v h' tk (by simpa [intItems] using hP) fun b o e => ?_
    refine hk b o (fun hm => ?_) (Heap.get?_push_of_some _ e)
    rcases List.mem_cons.mp hm with e1 | hm
    · exact absurd (e1 ▸ Heap.lt_size e) (Nat.lt_irrefl _)
    · cases hm
end
end PySem
namespace M
open PySem L2
section
variable {G : CT} {X : Cx} {W : WX} {K : PySem.W.Frag} {μ : Mu} {H : Hp} {h : AH}
/-! ### max of a tuple, min of a list -/
def rMaxT (K : PySem.W.Frag) : List V → Hp → VK → Prop := fun vs H Q => ∃ (a : Addr) (ns : List Int), vs = [V.ref a] ∧ SqT K H a (ns.map V.int) ∧ 0 < ns.length ∧ ∀ m, m ∈ ns → (∀ y, y ∈ ns → y ≤ m) → Q (.int m) H
theorem cr_maxT (hc : X.calm = true) : CallR X (.builtin "max") (rMaxT X.K) := by
  intro pins s σ H vs us Q I r h
  obtain ⟨a, ns, rfl, hs, hne, q⟩ := h
  obtain ⟨its, rv, hl, _⟩ := I.tuple hs
  rw [Vals.ref1 r]
  have hi := rv.ints
  obtain ⟨xs, e⟩ := hi.allInts.items
  have hn : numsOf (intItems xs).toList = ns := by rw [← e]; exact hi.numsOf
  rw [nums_intItems] at hn
  subst hn
  rw [e] at hl
  have hsz : 0 < xs.size := by simpa using hne
  refine PySem.max_intTup (I.ok.hd hc) (show s.heap.IsTuple a (intItems xs) from hl) hsz fun v h' tk hv hk => ?_
  obtain ⟨t, rfl⟩ := intItems_at hv
  obtain ⟨h1, h2⟩ := argBest_gt (numAt xs) (xs.size - 1)
  refine ⟨.int _, H, I.kept hk, ⟨_, rfl⟩, q _ ?_ fun b hb => ?_⟩
  · rw [numAt_eq]; exact PySem.getD_mem (by rw [List.length_map, Array.length_toList]; omega)
  · obtain ⟨j, hj, rfl⟩ := mem_getD hb
    rw [List.length_map, Array.length_toList] at hj
    rw [← numAt_eq]; exact h2 j (by omega)
/-- ints of a list of trees -/
def intsT : List T → Option (List Int)
  | [] => some []
  | .int i :: r => (intsT r).map (i :: ·)
  | _ => none
theorem intsT_eq : ∀ {ts : List T} {ns : List Int}, intsT ts = some ns → ts = ns.map T.int
  | [], _, e => by cases e; rfl
  | .int i :: r, _, e => by
    unfold intsT at e
    cases q : intsT r with
    | none => rw [q] at e; cases e
    | some ns =>
      rw [q] at e
      cases e
      rw [intsT_eq q]
      rfl
theorem intsT_map (ns : List Int) : intsT (ns.map T.int) = some ns := by
  induction ns with
  | nil => rfl
  | cons n r ih => rw [List.map_cons]; unfold intsT; rw [ih]; rfl
def maxI : Int → List Int → Int
  | m, [] => m
  | m, n :: r => maxI (if n > m then n else m) r
def minI : Int → List Int → Int
  | m, [] => m
  | m, n :: r => minI (if n < m then n else m) r
theorem maxI_ge : ∀ (r : List Int) (m : Int), m ≤ maxI m r ∧ (∀ y ∈ r, y ≤ maxI m r) ∧ (maxI m r = m ∨ maxI m r ∈ r)
  | [], m => ⟨Int.le_refl _, by simp, .inl rfl⟩
  | n :: r, m => by
    unfold maxI
    obtain ⟨h1, h2, h3⟩ := maxI_ge r (if n > m then n else m)
    by_cases c : n > m
    · rw [if_pos c] at h1 h2 h3 ⊢
      refine ⟨by omega, fun y hy => ?_, .inr ?_⟩
      · rcases List.mem_cons.mp hy with z | z
        · subst z; exact h1
        · exact h2 y z
      · rcases h3 with z | z
        · rw [z]; exact List.mem_cons_self
        · exact List.mem_cons_of_mem _ z
    · rw [if_neg c] at h1 h2 h3 ⊢
      refine ⟨h1, fun y hy => ?_, ?_⟩
      · rcases List.mem_cons.mp hy with z | z
        · subst z; omega
        · exact h2 y z
      · rcases h3 with z | z
        · exact .inl z
        · exact .inr (List.mem_cons_of_mem _ z)
theorem minI_le : ∀ (r : List Int) (m : Int), minI m r ≤ m ∧ (∀ y ∈ r, minI m r ≤ y) ∧ (minI m r = m ∨ minI m r ∈ r)
  | [], m => ⟨Int.le_refl _, by simp, .inl rfl⟩
  | n :: r, m => by
    unfold minI
    obtain ⟨h1, h2, h3⟩ := minI_le r (if n < m then n else m)
    by_cases c : n < m
    · rw [if_pos c] at h1 h2 h3 ⊢
      refine ⟨by omega, fun y hy => ?_, .inr ?_⟩
      · rcases List.mem_cons.mp hy with z | z
        · subst z; exact h1
        · exact h2 y z
      · rcases h3 with z | z
        · rw [z]; exact List.mem_cons_self
        · exact List.mem_cons_of_mem _ z
    · rw [if_neg c] at h1 h2 h3 ⊢
      refine ⟨h1, fun y hy => ?_, ?_⟩
      · rcases List.mem_cons.mp hy with z | z
        · subst z; omega
        · exact h2 y z
      · rcases h3 with z | z
        · exact .inl z
        · exact .inr (List.mem_cons_of_mem _ z)
theorem max_is {m n : Int} {r : List Int} (h : m ∈ n :: r) (g : ∀ y, y ∈ n :: r → y ≤ m) : m = maxI n r := by
  obtain ⟨h1, h2, h3⟩ := maxI_ge r n
  have a : maxI n r ≤ m := by
    rcases h3 with z | z
    · rw [z]; exact g n List.mem_cons_self
    · exact g _ (List.mem_cons_of_mem _ z)
  have b : m ≤ maxI n r := by
    rcases List.mem_cons.mp h with z | z
    · rw [z]; exact h1
    · exact h2 m z
  omega
theorem min_is {m n : Int} {r : List Int} (h : m ∈ n :: r) (g : ∀ y, y ∈ n :: r → m ≤ y) : m = minI n r := by
  obtain ⟨h1, h2, h3⟩ := minI_le r n
  have a : m ≤ minI n r := by
    rcases h3 with z | z
    · rw [z]; exact g n List.mem_cons_self
    · exact g _ (List.mem_cons_of_mem _ z)
  have b : minI n r ≤ m := by
    rcases List.mem_cons.mp h with z | z
    · rw [z]; exact h1
    · exact h2 m z
  omega
def cMaxT : List T → AH → Option (T × AH)
  | [.tup ts], h => match intsT ts with
    | some (n :: r) => some (.int (maxI n r), h)
    | _ => none
  | _, _ => none
theorem cbm_maxT : CbM G K (rMaxT K) cMaxT := fun {μ H h ts vs Q a h'} r l e k => by
  unfold cMaxT at e
  split at e
  · split at e
    · next hn =>
      cases e
      have q := intsT_eq hn
      subst q
      cases l with
      | cons i1 i2 =>
        cases i2
        cases i1 with
        | tup s l =>
          have z := l.ints_eq
          subst z
          refine ⟨_, _, rfl, s, Nat.zero_lt_succ _, fun m h1 h2 => ?_⟩
          rw [max_is h1 h2]
          exact k μ H _ Ext.refl r (.int _)
    · cases e
  · cases e
def cMinL : List T → AH → Option (T × AH)
  | [t], h => match lsT h t with
    | some ts => match intsT ts with
      | some (n :: r) => some (.int (minI n r), h)
      | _ => none
    | none => none
  | _, _ => none
theorem cbm_minL : CbM G K (rMin K) cMinL := fun {μ H h ts vs Q a h'} r l e k => by
  unfold cMinL at e
  split at e
  · split at e
    · next hu =>
      split at e
      · next hn =>
        cases e
        have q := intsT_eq hn
        subst q
        cases l with
        | cons i1 i2 =>
          cases i2
          obtain ⟨a, ws, rfl, q2, l⟩ := lsT_ok r i1 hu
          have z := l.ints_eq
          subst z
          refine ⟨_, _, rfl, SqL.of q2, Nat.zero_lt_succ _, fun m h1 h2 => ?_⟩
          rw [min_is h1 h2]
          exact k μ H _ Ext.refl r (.int _)
      · cases e
    · cases e
  · cases e
def cMaxL : List T → AH → Option (T × AH)
  | [t], h => match lsT h t with
    | some ts => match intsT ts with
      | some (n :: r) => some (.int (maxI n r), h)
      | _ => none
    | none => none
  | _, _ => none
theorem cbm_maxL : CbM G K (rMax K) cMaxL := fun {μ H h ts vs Q a h'} r l e k => by
  unfold cMaxL at e
  split at e
  · split at e
    · next hu =>
      split at e
      · next hn =>
        cases e
        have q := intsT_eq hn
        subst q
        cases l with
        | cons i1 i2 =>
          cases i2
          obtain ⟨a, ws, rfl, q2, l⟩ := lsT_ok r i1 hu
          have z := l.ints_eq
          subst z
          refine ⟨_, _, rfl, SqL.of q2, Nat.zero_lt_succ _, fun m h1 h2 => ?_⟩
          rw [max_is h1 h2]
          exact k μ H _ Ext.refl r (.int _)
      · cases e
    · cases e
  · cases e
/-! ### sorted -/
/-- a list of ints put in order -/
def insI (n : Int) : List Int → List Int
  | [] => [n]
  | m :: r => if n ≤ m then n :: m :: r else m :: insI n r
def srtI : List Int → List Int
  | [] => []
  | n :: r => insI n (srtI r)
theorem insI_perm (n : Int) : ∀ r : List Int, (insI n r).Perm (n :: r)
  | [] => .refl _
  | m :: r => by
    unfold insI
    split
    · exact .refl _
    · exact ((insI_perm n r).cons m).trans (List.Perm.swap n m r)
theorem srtI_perm : ∀ r : List Int, (srtI r).Perm r
  | [] => .refl _
  | n :: r => (insI_perm n (srtI r)).trans ((srtI_perm r).cons n)
theorem insI_srt (n : Int) : ∀ r : List Int, r.Pairwise (· ≤ ·) → (insI n r).Pairwise (· ≤ ·)
  | [], _ => by unfold insI; simp
  | m :: r, h => by
    obtain ⟨h1, h2⟩ := List.pairwise_cons.mp h
    unfold insI
    split
    · next c =>
      refine List.pairwise_cons.mpr ⟨fun y hy => ?_, h⟩
      rcases List.mem_cons.mp hy with z | z
      · rw [z]; exact c
      · exact Int.le_trans c (h1 y z)
    · next c =>
      refine List.pairwise_cons.mpr ⟨fun y hy => ?_, insI_srt n r h2⟩
      rcases List.mem_cons.mp ((insI_perm n r).mem_iff.mp hy) with z | z
      · rw [z]; omega
      · exact h1 y z
theorem srtI_srt : ∀ r : List Int, (srtI r).Pairwise (· ≤ ·)
  | [] => .nil
  | n :: r => insI_srt n _ (srtI_srt r)
theorem srt_is {ns ms : List Int} (p : ms.Perm ns) (s : ms.Pairwise (· ≤ ·)) : ms = srtI ns :=
  (p.trans (srtI_perm ns).symm).eq_of_pairwise (fun a b _ _ h1 h2 => Int.le_antisymm h1 h2) s (srtI_srt ns)
def intKeys : List (Key × T) → Option (List Int)
  | [] => some []
  | (.inl i, _) :: r => (intKeys r).map (i :: ·)
  | _ => none
theorem intKeys_eq : ∀ {kts : List (Key × T)} {ns : List Int}, intKeys kts = some ns → kts.map (·.1) = ns.map Sum.inl
  | [], _, e => by cases e; rfl
  | (.inl i, _) :: r, _, e => by
    unfold intKeys at e
    cases q : intKeys r with
    | none => rw [q] at e; cases e
    | some ns =>
      rw [q] at e
      cases e
      rw [List.map_cons, intKeys_eq q]
      rfl
/-- sorted(d), int keys, fewer than 64 -/
def cSortD : List T → AH → Option (T × AH)
  | [t], h => match dictR h t with
    | some kts => match intKeys kts with
      | some ns => if ns.length < 64 then some (.lv ((srtI ns).map .int), h) else none
      | none => none
    | none => none
  | _, _ => none
theorem cbm_sortD : CbM G K (fun xs H Q => ∃ (a : Addr) (kvs : List (Key × V)) (ks : List Int), xs = [.ref a] ∧ Rd H a (.dK kvs) ∧ kvs.map (·.1) = ks.map Sum.inl ∧ ks.length < 64 ∧
    ∀ (ys : List Int) (p : Addr), ys.Perm ks → ys.Pairwise (· ≤ ·) → H p = none → Q (.ref p) (upd H p (.lst (ys.map V.int)))) cSortD := fun {μ H h ts vs Q a h'} r l e k => by
  unfold cSortD at e
  split at e
  · split at e
    · next hu =>
      split at e
      · next hn =>
        split at e
        · next hl =>
          cases e
          cases l with
          | cons i1 i2 =>
            cases i2
            obtain ⟨a, kvs, rfl, q2, l⟩ := dictR_ok r i1 hu
            refine ⟨a, kvs, _, rfl, .inl q2, l.keys.symm.trans (intKeys_eq hn), hl, fun ys p h1 h2 hp => ?_⟩
            rw [srt_is h1 h2]
            exact k _ _ _ (ext_allocZ hp) (r.allocZ hp) (.lvZ hp IsL.ints)
        · cases e
      · cases e
    · cases e
  · cases e
/-- sorted(xs), ints -/
def cSortL : List T → AH → Option (T × AH)
  | [t], h => match lsT h t with
    | some ts => match intsT ts with
      | some ns => some (.lv ((srtI ns).map .int), h)
      | none => none
    | none => none
  | _, _ => none
theorem cbm_sortL : CbM G K (rSortedI K) cSortL := fun {μ H h ts vs Q a h'} r l e k => by
  unfold cSortL at e
  split at e
  · split at e
    · next hu =>
      split at e
      · next hn =>
        cases e
        have q := intsT_eq hn
        subst q
        cases l with
        | cons i1 i2 =>
          cases i2
          obtain ⟨a, ws, rfl, q2, l⟩ := lsT_ok r i1 hu
          have z := l.ints_eq
          subst z
          refine ⟨a, _, rfl, SqL.of q2, fun ys p h1 h2 hp => ?_⟩
          rw [srt_is h1 h2]
          exact k _ _ _ (ext_allocZ hp) (r.allocZ hp) (.lvZ hp IsL.ints)
      · cases e
    · cases e
  · cases e
/-! ### any, all of a list of bools -/
def blsT : List T → Option (List Bool)
  | [] => some []
  | .bl i :: r => (blsT r).map (i :: ·)
  | _ => none
theorem blsT_eq : ∀ {ts : List T} {ns : List Bool}, blsT ts = some ns → ts = ns.map T.bl
  | [], _, e => by cases e; rfl
  | .bl i :: r, _, e => by
    unfold blsT at e
    cases q : blsT r with
    | none => rw [q] at e; cases e
    | some ns =>
      rw [q] at e
      cases e
      rw [blsT_eq q]
      rfl
def cAny : List T → AH → Option (T × AH)
  | [t], h => match lsT h t with
    | some ts => match blsT ts with
      | some bs => some (.bl (bs.any id), h)
      | none => none
    | none => none
  | _, _ => none
def cAll : List T → AH → Option (T × AH)
  | [t], h => match lsT h t with
    | some ts => match blsT ts with
      | some bs => some (.bl (bs.all id), h)
      | none => none
    | none => none
  | _, _ => none
theorem cbm_any : CbM G K (rAny K) cAny := fun {μ H h ts vs Q a h'} r l e k => by
  unfold cAny at e
  split at e
  · split at e
    · next hu =>
      split at e
      · next hn =>
        cases e
        have q := blsT_eq hn
        subst q
        cases l with
        | cons i1 i2 =>
          cases i2
          obtain ⟨a, ws, rfl, q2, l⟩ := lsT_ok r i1 hu
          have z := l.bls_eq
          subst z
          exact ⟨a, _, rfl, SqL.of q2, k μ H _ Ext.refl r (.bl _)⟩
      · cases e
    · cases e
  · cases e
theorem cbm_all : CbM G K (rAll K) cAll := fun {μ H h ts vs Q a h'} r l e k => by
  unfold cAll at e
  split at e
  · split at e
    · next hu =>
      split at e
      · next hn =>
        cases e
        have q := blsT_eq hn
        subst q
        cases l with
        | cons i1 i2 =>
          cases i2
          obtain ⟨a, ws, rfl, q2, l⟩ := lsT_ok r i1 hu
          have z := l.bls_eq
          subst z
          exact ⟨a, _, rfl, SqL.of q2, k μ H _ Ext.refl r (.bl _)⟩
      · cases e
    · cases e
  · cases e
/-! ### x += e -/
def mAug (f : T → T → AH → Option (T × AH)) (i : Nat) (m : EM) : SM := fun env h => match env[i]? with
  | some (some t) => (m env h).st env fun u h1 => match f t u h1 with
    | some (v, h2) => .nx (env.set i (some v)) h2
    | none => .bad
  | _ => .bad
theorem opm_ipadd : OpM G K (ipI fun i j => i + j) (fInt (fun _ _ => true) fun i j => i + j) := fun {μ H h t u v w Q z h'} rh i j e k => by
  cases i with
  | int a =>
    cases j with
    | int b =>
      cases e
      exact ⟨a, b, rfl, rfl, k μ H _ Ext.refl rh (.int _)⟩
    | _ => cases e
  | _ => cases e
theorem psm_augadd (i : Nat) {x : Str} {e : Expr} {m : EM} {pos pos' : Pos} (hN : X.N.Nodup) (he : PEm G X W e m) (hi : X.N[i]? = some x := by rfl) (hx : Loc X.env.scope x := by first | exact Or.inl rfl | exact Or.inr rfl)
    (hf : X.fn x = true ∨ X.env.scope.names.lookup x = some .local := by first | exact .inl rfl | exact .inr rfl) : PSm G X W (.AugAssign (.Name x pos') .Add e pos) (mAug (fInt (fun _ _ => true) fun i j => i + j) i m) :=
  PS.imp (ps_aug hN hi hx he ip_add hf) fun D σ H q => by
  obtain ⟨μ, env, h, r, re, w⟩ := q
  unfold mAug at w
  split at w
  · next t hq =>
    obtain ⟨v, hv, iv⟩ := re.at_ i t hq
    refine ⟨v, hv, μ, env, h, r, re, (WantS.expr re w).mp fun u h1 μ1 H1 _ e1 r1 ⟨_, _, w1⟩ y iy => ?_⟩
    split at w1
    · next hz => exact opm_ipadd r1 (iv.mono e1) iy hz fun μ' H' z e2 r2 iz => w1 μ' _ H' e2 r2 (((re.mono e1).mono e2).set i iz)
    · exact w1.elim
  · exact w.elim
/-! ### a dict walked by its keys: it is not used again -/
def kT : Key → T
  | .inl i => .int i | .inr x => .str x
theorem kT_ok (k : Key) : Is G K μ H (kT k) (kV k) := by cases k <;> constructor
theorem pi_keysF {tg e : Expr} {td : TE} (he : PE X e td) : PI X tg e (fun σ H R => td σ H fun x H1 => ∃ d kvs, x = .ref d ∧ H1 d = some (.dK kvs) ∧ ∀ od, R (Itk d od kvs) (upd H1 d (.frz od (.dK kvs)))) := by
  refine ⟨fun pins s σ H R I h => ?_⟩
  refine thn (he.run pins s σ H _ I h) fun u s1 ⟨x, H1, I1, rx, d, kvs, ex, hd, q⟩ => ?_
  subst ex
  obtain rfl : u = Value.ref d := rx
  obtain ⟨od, I2⟩ := I1.lock hd trivial
  obtain ⟨hs, hgd, hx, es, ep, vs, hdt, hsz, kv, hm⟩ := I2.frzK upd_same
  refine iter_keys hs hgd hx hdt (pi_one (tk := s1.toks) I2 _ (turn_keys _ hdt) ⟨_, Heap.get?_push_size _ rfl, rfl, ?_⟩ (q od))
  rw [hsz] <;> rfl
def sKeys (m : EM) : Env → AH → Out Src := fun env h => (m env h).bind fun t h1 => match t with
  | .obj n => match h1[n]? with
    | some (.dK kts) => .ok (.fix (kts.map fun p => kT p.1)) (h1.set n .any)
    | _ => .bad
  | _ => .bad
theorem pim_keys {tg e : Expr} {m : EM} (he : PEm G X W e m) : PIm G X W tg e (sKeys m) := PI.imp (pi_keysF he) fun σ H R q => by
  obtain ⟨μ, env, h, r, re, w⟩ := q
  refine ⟨μ, env, h, r, re, (Want.bind w).mp fun t h1 μ1 H1 _ e1 r1 ⟨_, _, w1⟩ v iv => ?_⟩
  cases iv with
  | @obj n a s =>
    dsimp only at w1
    split at w1
    · next kts hk =>
      obtain ⟨a', o, q1, q2, q3⟩ := r1.get hk
      rw [s] at q1
      cases q1
      cases q3 with
      | @dK _ kvs l =>
        refine ⟨a, kvs, rfl, q2, fun od => ?_⟩
        have ex := ext_write (o := .frz od (.dK kvs)) r1 s q2 rfl
        refine w1 μ1 _ ex (r1.write s q2 rfl (.any _)) _ fun i h' μ' H' e' r' => ?_
        have hfr := e'.im a _ upd_same rfl
        unfold Src.fix
        dsimp only
        have hlen := l.length
        have hkeys := l.keys
        cases q : (kts.map fun p => kT p.1)[i]? with
        | none =>
          refine ⟨hfr, ?_⟩
          have z := List.getElem?_eq_none_iff.mp q
          rw [List.length_map] at z
          omega
        | some t =>
          have hi : i < kts.length := by
            have z := (List.getElem?_eq_some_iff.mp q).1
            rw [List.length_map] at z
            exact z
          refine ⟨⟨hfr, by omega⟩, ?_⟩
          rintro x H'' ⟨rfl, k, v, hkv, rfl⟩
          refine ⟨Ext.refl, r', ?_⟩
          have e1 : (kvs.map (·.1))[i]? = some k := by rw [List.getElem?_map, hkv]; rfl
          rw [← hkeys, List.getElem?_map] at e1
          rw [List.getElem?_map] at q
          cases z : kts[i]? with
          | none => rw [z] at q; cases q
          | some p =>
            rw [z] at q e1
            cases q
            cases e1
            exact kT_ok _
    · exact w1.elim
  | _ => exact w1.elim
/-! ### dict comprehensions -/
def dcS (s : Src) (g : T → Env → Option Env) (c : EB) (mk mv : EM) (env : Env) : Nat → Nat → List (Key × T) → AH → Out (List (Key × T))
  | 0, _, _, _ => .bad
  | f + 1, i, acc, h => match s.nx i h with
    | none => .bad
    | some none => .ok acc h
    | some (some t) => match g t env with
      | none => .bad
      | some e1 => (c e1 h).bind fun b h1 => if b = true then (mk e1 h1).bind fun k h2 => (mv e1 h2).bind fun u h3 => if acc.length < sizeLine then match keyT k with
          | some k => dcS s g c mk mv env f (i + 1) (putT acc k u) h3
          | none => .bad
          else .bad
        else dcS s g c mk mv env f (i + 1) acc h1
def mDc (vs : List Nat) (s : Env → AH → Out Src) (g : T → Env → Option Env) (c : EB) (mk mv : EM) : EM := fun env h => (s env h).bind fun src h1 => (dcS src g c mk mv (wipeE env vs) src.fuel 0 [] h1).bind fun ts h2 => .ok (.obj h2.length) (h2 ++ [.dK ts])
structure DSt (G : CT) (K : PySem.W.Frag) (μ1 : Mu) (H1 : Hp) (D : Addr) (μ : Mu) (H : Hp) (h : AH) (acc : List (Key × T)) : Prop where
  ext : Ext μ1 H1 μ H
  rep : RepH G K μ H h
  out : D ∉ μ.m
  outz : D ∉ μ.z
  at_ : ∃ vs, H D = some (.dK vs) ∧ IsK G K μ H acc vs
theorem DSt.up {μ1 μ' : Mu} {H1 H' : Hp} {D : Addr} {acc : List (Key × T)} {h' : AH} (c : DSt G K μ1 H1 D μ H h acc) (e : Ext μ H μ' H') (r : RepH G K μ' H' h') : DSt G K μ1 H1 D μ' H' h' acc := by
  obtain ⟨vs, q, l⟩ := c.at_
  exact ⟨c.ext.trans e, r, e.out q c.out, e.outz q c.outz, vs, e.fr _ _ q c.out, l.mono e⟩
theorem dc_ok {vs : List Nat} {s : Env → AH → Out Src} {g : T → Env → Option Env} {c : EB} {mk mv : EM} : ∀ σ H Q, teOf G X.K W0 (mDc vs s g c mk mv) σ H Q → tDc (tiOf G X.K W0 s) (tgOf G X.K vs g) (ttOf G X.K W0 c) (teOf G X.K W0 mk) (teOf G X.K W0 mv) vs σ H Q := fun σ H Q q => by
  obtain ⟨μ, env, h, r, re, w⟩ := q
  refine ⟨μ, env, h, r, re, (Want.bind w).mp fun src h1 μ1 H1 _ e1 r1 ⟨_, _, w1⟩ J ok D hD => ?_⟩
  have re1 := (re.mono e1).wipes vs
  refine ⟨fun i f H => ∃ μ' h' acc, DSt G X.K μ1 H1 D μ' H h' acc ∧ Want G X.K (fun _ _ _ => False) ((dcS src g c mk mv (wipeE env vs) f i acc h').bind fun ts h2 => Out.ok (.obj h2.length) (h2 ++ [.dK ts])) μ1 H1 (wT G X.K Q),
    ⟨src.fuel, μ1, h1, [], ⟨ext_new hD, r1.new hD, r1.notin hD, r1.notz hD, [], upd_same, .nil⟩, w1⟩, ?_⟩
  rintro i f H' ⟨μ', h', acc, cs, w'⟩
  cases f with
  | zero => exact w'.elim
  | succ f =>
    have z := ok i h' μ' H' cs.ext.toI cs.rep
    unfold dcS at w'
    split at w'
    · exact w'.elim
    · next hn =>
      rw [hn] at z
      refine .inl ⟨z, ?_⟩
      obtain ⟨as, q1, l⟩ := cs.at_
      refine w' (μ'.add D) H' (cs.ext.join hD) (cs.rep.join cs.out cs.outz q1 (.dK l)) _ (.obj ?_)
      exact len_alloc cs.rep
    · next t hn =>
      rw [hn] at z
      refine .inr ⟨z.1, fun H => ∃ μ' h' acc, DSt G X.K μ1 H1 D μ' H h' acc ∧ Want G X.K (fun _ _ _ => False) ((dcS src g c mk mv (wipeE env vs) f (i + 1) acc h').bind fun ts h2 => Out.ok (.obj h2.length) (h2 ++ [.dK ts])) μ1 H1 (wT G X.K Q), fun H2 q2 => ⟨f, Nat.lt_succ_self _, q2⟩, ?_⟩
      intro x H'' hy
      obtain ⟨e2, r2, ix⟩ := z.2 x H'' hy
      have c2 := cs.up e2 r2
      cases hg : g t (wipeE env vs) with
      | none => rw [hg] at w'; exact w'.elim
      | some env1 =>
        rw [hg] at w'
        dsimp only at w'
        rw [bind_assoc] at w'
        refine ⟨μ', wipeE env vs, h', t, env1, r2, re1.mono c2.ext, ix, hg, fun σ2 re2 w2 => ⟨w2.trans wipe_wipe, ?_⟩⟩
        refine ⟨μ', env1, h', r2, re2, (Want.up c2.ext w').bind.mp fun b h2 μ3 H3 e3 x3 r3 _ => ?_⟩
        rw [e3] at w'
        have c3 := c2.up x3 r3
        cases b with
        | false => exact ⟨μ3, h2, acc, c3, w'⟩
        | true =>
          have w5 : Want G X.K (fun _ _ _ => False) ((mk env1 h2).bind fun k h2 => ((mv env1 h2).bind fun u h3 => if acc.length < sizeLine then match keyT k with
            | some k => dcS src g c mk mv (wipeE env vs) f (i + 1) (putT acc k u) h3
            | none => Out.bad
            else .bad).bind fun ts h2 => Out.ok (T.obj h2.length) (h2 ++ [.dK ts])) μ1 H1 (wT G X.K Q) := by
            rw [← bind_assoc]
            exact w'
          refine ⟨μ3, env1, h2, r3, re2.mono x3, (Want.up c3.ext w5).bind.mp fun k h3 μ4 H4 e4 x4 r4 _ y iy => ?_⟩
          rw [e4] at w5
          have c4 := c3.up x4 r4
          have w6 : Want G X.K (fun _ _ _ => False) ((mv env1 h3).bind fun u h3 => ((if acc.length < sizeLine then match keyT k with
            | some k => dcS src g c mk mv (wipeE env vs) f (i + 1) (putT acc k u) h3
            | none => Out.bad
            else .bad) : Out (List (Key × T))).bind fun ts h2 => Out.ok (T.obj h2.length) (h2 ++ [.dK ts])) μ1 H1 (wT G X.K Q) := by
            rw [← bind_assoc]
            exact w5
          refine ⟨μ4, env1, h3, r4, (re2.mono x3).mono x4, (Want.up c4.ext w6).bind.mp fun u h4 μ5 H5 e5 x5 r5 _ y2 iy2 => ?_⟩
          rw [e5] at w6
          have c5 := c4.up x5 r5
          obtain ⟨as, q1, l⟩ := c5.at_
          have w7 : Want G X.K (fun _ _ _ => False) (((if acc.length < sizeLine then match keyT k with
            | some k => dcS src g c mk mv (wipeE env vs) f (i + 1) (putT acc k u) h4
            | none => Out.bad
            else .bad) : Out (List (Key × T))).bind fun ts h2 => Out.ok (T.obj h2.length) (h2 ++ [.dK ts])) μ1 H1 (wT G X.K Q) := w6
          by_cases hl : acc.length < sizeLine
          · rw [if_pos hl] at w7
            cases hk : keyT k with
            | none => rw [hk] at w7; exact w7.elim
            | some ky =>
              rw [hk] at w7
              refine ⟨as, ky, keyT_ok iy hk, q1, by rw [← l.length]; exact hl, μ5, h4, putT acc ky u, ⟨c5.ext.side hD, r5.side c5.out c5.outz q1 rfl, c5.out, c5.outz, _, upd_same, ?_⟩, w7⟩
              exact (l.put iy2).monoI (extI_side c5.outz q1 rfl)
          · rw [if_neg hl] at w7
            exact w7.elim
theorem pm_dc {kx vx tg iter : Expr} {ifs : List Expr} {scope : Scope} {vs : List Nat} {pos : Pos} {s : Env → AH → Out Src} {g : T → Env → Option Env} {c : EB} {mk mv : EM} (own : List (Str × Nat)) (hc : X.calm = true) (hN : X.N.Nodup) (hi : PIm G X W0 tg iter s) (ok : BlkOk X.N X.env.scope scope own) (hv : own.map (·.2) = vs)
    (hg : ∀ (s : Shared) (H : Hp) (C : Addr) (cl : List (Str × Addr)) (fp : List Addr), PGm G (X.blk s H scope (compEnvC scope cl C X.env) fp) vs tg g)
    (ht : ∀ (s : Shared) (H : Hp) (C : Addr) (cl : List (Str × Addr)) (fp : List Addr), ptsOf G (X.blk s H scope (compEnvC scope cl C X.env) fp) W0 ifs c)
    (hk : ∀ (s : Shared) (H : Hp) (C : Addr) (cl : List (Str × Addr)) (fp : List Addr), PEm G (X.blk s H scope (compEnvC scope cl C X.env) fp) W0 kx mk)
    (he : ∀ (s : Shared) (H : Hp) (C : Addr) (cl : List (Str × Addr)) (fp : List Addr), PEm G (X.blk s H scope (compEnvC scope cl C X.env) fp) W0 vx mv) (hs : ∀ x, foldedSetIterable iter X.env x = pure x := by intro _; rfl) :
    PEm G X W0 (.DictComp kx vx [⟨tg, iter, ifs, 0⟩] scope pos) (mDc vs s g c mk mv) := by
  subst hv
  exact PE.imp (pe_dc (wi := tiOf G X.K W0 s) (g := tgOf G X.K _ g) (tt := ttOf G X.K W0 c) (tk := teOf G X.K W0 mk) (tv := teOf G X.K W0 mv) hc hN hi ok hg ht hk he hs) dc_ok
end
end M
namespace M
open PySem L2
/-- a written constant of the module -/
structure CstAt (K : PySem.W.Frag) (mg : Str → Option Value) (x : Str) (t : T) : Prop where
  ex : ∃ v u, mg x = some u ∧ RelV v u ∧ ∀ G μ H, Is G K μ H t v
section
variable {G : CT} {X : Cx} {W : WX} {K : PySem.W.Frag} {μ : Mu} {H : Hp} {h : AH}
theorem pm_cst {x : Str} {t : T} {pos : Pos} (A : CstAt X.K X.mg x t) (hg : Gl X x := by rfl) (hd : (x == ("__debug__" : Str)) = false := by decide) : PEm G X W (.Name x pos) (mC t) := by
  obtain ⟨v, u, hm, rv, hi⟩ := A.ex
  exact pm_glob hm rv (hi G) hg hd
/-- -n, n written or not -/
def mNeg (m : EM) : EM := fun env h => (m env h).bind fun t h1 => match t with
  | .int i => .ok (.int (-i)) h1
  | _ => .bad
theorem pm_neg {e : Expr} {m : EM} {pos : Pos} (he : PEm G X W e m) : PEm G X W (.UnaryOp .USub e pos) (mNeg m) := PE.imp (pe_un un_neg he) fun σ H Q q => by
  obtain ⟨μ, env, h, r, re, w⟩ := q
  refine ⟨μ, env, h, r, re, (Want.bind w).mp fun t h1 μ1 H1 _ e1 r1 ⟨_, _, w1⟩ v iv => ?_⟩
  cases iv with
  | int i => exact ⟨i, rfl, Want.now (R := wT G X.K Q) r1 w1 _ (.int _)⟩
  | _ => exact w1.elim
/-! ### isinstance(x, T), T one of int, str, bool, tuple, list -/
def tyT (h : AH) : T → Option String
  | .non => some "NoneType" | .bl _ => some "bool" | .int _ => some "int" | .str _ => some "str" | .tup _ => some "tuple" | .lv _ => some "list"
  | .obj n => match h[n]? with
    | some (.lst _) => some "list"
    | some (.dK _) => some "dict"
    | _ => none
  | _ => none
theorem tyT_ok (r : RepH G K μ H h) {t : T} {v : V} {s : String} (i : Is G K μ H t v) (e : tyT h t = some s) : TyX K H v (.type s) := by
  cases i with
  | non => cases e; exact .base .non
  | bl b => cases e; exact .base (.bl b)
  | int b => cases e; exact .base (.int b)
  | str b => cases e; exact .base (.str b)
  | @tup a ts vs s l =>
    cases e
    rcases s with (s | ⟨o, s⟩) | ⟨o, its, n, k, c, _⟩
    · exact .base (.tup s)
    · exact .fTuple s
    · exact .kTuple k c
  | @lv a ts vs z s l => cases e; exact .base (.lst s)
  | @obj n a s =>
    unfold tyT at e
    dsimp only at e
    split at e
    · next ts hk =>
      cases e
      obtain ⟨a', o, q1, q2, q3⟩ := r.get hk
      rw [s] at q1
      cases q1
      cases q3 with
      | lst l => exact .base (.lst q2)
    · next ts hk =>
      cases e
      obtain ⟨a', o, q1, q2, q3⟩ := r.get hk
      rw [s] at q1
      cases q1
      cases q3 with
      | dK l => exact .base (.dK q2)
    · cases e
  | _ => cases e
def isiS (a b : String) : Option Bool := if ["NoneType", "bool", "int", "str", "tuple", "list", "dict"].contains a && ["bool", "int", "str", "tuple", "list"].contains b then some (a == b || (a == "bool" && b == "int")) else none
theorem isiS_ok {a b : String} {r : Bool} (h : isiS a b = some r) : kitB a b = some r := by
  have key : ∀ a ∈ ["NoneType", "bool", "int", "str", "tuple", "list", "dict"], ∀ b ∈ ["bool", "int", "str", "tuple", "list"], kitB a b = some (a == b || (a == "bool" && b == "int")) := by decide +kernel
  unfold isiS at h
  split at h
  · next c =>
    obtain ⟨c1, c2⟩ := Bool.and_eq_true_iff.mp c
    cases h
    exact key a (List.contains_iff_mem.mp c1) b (List.contains_iff_mem.mp c2)
  · cases h
def mIsi (b : String) (m : EM) : EM := fun env h => (m env h).bind fun t h1 => match tyT h1 t with
  | some a => match isiS a b with
    | some r => .ok (.bl r) h1
    | none => .bad
  | none => .bad
theorem pm_isi {b : String} {e : Expr} {m : EM} {p p2 pos : Pos} (hm : X.mg "isinstance" = none) (hb : X.mg (Str.ofString b) = none) (he : PEm G X W e m) (hv : bootBuiltins (Str.ofString b) = some (.type b) := by first | rfl | decide +kernel) (hg : Gl X "isinstance" := by rfl) (hgb : Gl X (Str.ofString b) := by rfl)
    (hn : (Str.ofString b) ≠ "__name__" := by decide) (hd : (Str.ofString b == ("__debug__" : Str)) = false := by decide)
    (hs : starEach (e :: [.Name (Str.ofString b) p2]) X.env = (false, eval e X.env) :: starEach [.Name (Str.ofString b) p2] X.env := by rfl) (hpl : (backTo pos (starEach [.Name (Str.ofString b) p2] X.env)).any (·.1) = false := by rfl)
    (hs2 : starEach [.Name (Str.ofString b) p2] X.env = (false, eval (.Name (Str.ofString b) p2) X.env) :: starEach [] X.env := by rfl) :
    PEm G X W (.Call (.Name "isinstance" p) [e, .Name (Str.ofString b) p2] [] pos) (mIsi b m) :=
  PE.imp (pe_callB call_isi hg hm (by decide +kernel) (pa_cons he (pa_cons (pe_bltn (v := .ty b) hgb hb hv rfl hn hd) pa_nil hs2) hs) (by decide) (by decide) hs hpl) fun σ H Q q => by
    obtain ⟨μ, env, h, r, re, w⟩ := q
    refine ⟨μ, env, h, r, re, (Want.bind w).mp fun t h1 μ1 H1 _ e1 r1 ⟨_, _, w1⟩ v iv => ?_⟩
    split at w1
    · next a ha =>
      split at w1
      · next z hz => exact ⟨v, .ty b, _, .type b, z, rfl, .ty b, tyT_ok r1 iv ha, kit_ty (isiS_ok hz), Want.now (R := wT G X.K Q) r1 w1 _ (.bl _)⟩
      · exact w1.elim
    · exact w1.elim
/-- tuple(range(a, b)) -/
def mTupRg (m n : EM) : EM := fun env h => (m env h).bind fun t h1 => (n env h1).bind fun u h2 => match t, u with
  | .int i, .int j => if -(2 ^ 62) ≤ i ∧ i < 2 ^ 62 ∧ -(2 ^ 62) ≤ j ∧ j < 2 ^ 62 ∧ (j - i).toNat ≤ 1000 then .ok (.tup (rngT i (j - i).toNat)) h2 else .bad
  | _, _ => .bad
theorem rng_is {i j : Int} : IsL G K μ H (rngT i (j - i).toNat) (rgV i j) := by
  have z : rgV i j = ((List.range (j - i).toNat).map fun k => i + ((k : Nat) : Int)).map V.int := by
    unfold rgV
    rw [List.map_map]
    rfl
  have z2 : rngT i (j - i).toNat = ((List.range (j - i).toNat).map fun k => i + ((k : Nat) : Int)).map T.int := by
    unfold rngT
    rw [List.map_map]
    rfl
  rw [z, z2]
  exact IsL.ints
theorem pm_tupRg {a b : Expr} {m n : EM} {p p2 pos pos2 : Pos} (hc : X.calm = true) (ht : X.mg "tuple" = none) (hr : X.mg "range" = none) (ha : PEm G X W a m) (hb : PEm G X W b n) (hgt : Gl X "tuple" := by rfl) (hgr : Gl X "range" := by rfl)
    (na : starEach [a, b] X.env = (false, eval a X.env) :: starEach [b] X.env := by rfl) (nb : starEach [b] X.env = (false, eval b X.env) :: starEach [] X.env := by rfl) (hp : (backTo pos2 (starEach [b] X.env)).any (·.1) = false := by rfl)
    (ne : starEach [.Call (.Name "range" p2) [a, b] [] pos2] X.env = (false, eval (.Call (.Name "range" p2) [a, b] [] pos2) X.env) :: starEach [] X.env := by rfl) :
    PEm G X W (.Call (.Name "tuple" p) [.Call (.Name "range" p2) [a, b] [] pos2] [] pos) (mTupRg m n) :=
  PE.imp (pe_tupRg hc hgt ht (prg_2 hgr hr ha hb na nb hp) ne) fun σ H Q q => by
    obtain ⟨μ, env, h, r, re, w⟩ := q
    refine ⟨μ, env, h, r, re, (Want.bind w).mp fun t h1 μ1 H1 _ e1 r1 ⟨_, _, w1⟩ v iv => ?_⟩
    refine ⟨μ1, env, h1, r1, re.mono e1, (Want.bind w1).mp fun u h2 μ2 H2 _ e2 r2 ⟨_, _, w2⟩ y iy => ?_⟩
    have iv2 := iv.mono e2
    cases iv2 with
    | int i =>
      cases iy with
      | int j =>
        dsimp only at w2
        split at w2
        · next hj =>
          refine ⟨i, j, rfl, rfl, ⟨hj.1, hj.2.1, hj.2.2.1, hj.2.2.2.1, by omega⟩, fun p hp => ?_⟩
          exact w2 μ2 _ (ext_new hp) (r2.new hp) _ (.tup (.inl (.inl upd_same)) rng_is)
        · exact w2.elim
      | _ => exact w2.elim
    | _ => exact w2.elim
end
end M
namespace M
open PySem L2
section
variable {G : CT} {X : Cx} {W : WX} {K : PySem.W.Frag} {μ : Mu} {H : Hp} {h : AH}
/-! ### x = [..], x = {..: ..}: a comprehension stored under a name -/
theorem setC_ok {t : TE} {m : EM} {i : Nat} (ht : ∀ σ H Q, teOf G X.K W0 m σ H Q → t σ H Q) : ∀ D σ H, tsOf G X.K W (mSet i fun env h => (m env h).noX) D σ H → tAsg t (gName i) D σ H := fun D σ H q => by
  obtain ⟨μ, env, h, r, re, w⟩ := q
  refine ht σ H _ ⟨μ, env, h, r, re, ?_⟩
  have w2 := WantS.expr re w
  exact (Want.noX w2).mp fun t h1 μ1 H1 _ e1 r1 ⟨_, _, w1⟩ v iv => w1 μ1 _ H1 Ext.refl r1 ((re.mono e1).set i iv)
theorem sw_trueD {kx vx : Expr} {gs : List Comprehension} {scope : Scope} {pos py : Pos} {y : Str} {l : Nat} {env : PySem.Env} (hk : env.scope.kind = .function) (hy : env.scope.names.lookup y = some .local) (hl : (py.line == pos.line) = true)
    (ha : (scope.names.any fun (n, k) => n == y && (k == .local || k == .cell)) = false) : swapsWith (.DictComp kx vx gs scope pos) (some (.Name y py)) l env = pure true := by
  have ky : env.kindOf y = some .local := hy
  have hb : env.blockKind = .function := by unfold Env.blockKind; rw [hk]; rfl
  unfold swapsWith
  simp only [hb, ky, ha, Expr.pos, hl]
  rfl
theorem ps_setDc {i : Nat} {y : Str} {py : Pos} {kx vx tg iter : Expr} {ifs : List Expr} {scope : Scope} {own : List (Str × Nat)} {pos spos : Pos} {wi : TI} {g : TG} {tt : TT} {tk tv : TE} (hc : X.calm = true) (hN : X.N.Nodup) (hy : X.N[i]? = some y) (hyl : X.env.scope.names.lookup y = some .local)
    (hsw : swapsWith (.DictComp kx vx [⟨tg, iter, ifs, 0⟩] scope pos) (some (.Name y py)) spos.line X.env = pure true) (hi : PI X tg iter wi) (ok : BlkOk X.N X.env.scope scope own)
    (hg : ∀ (s : Shared) (H : Hp) (C : Addr) (cl : List (Str × Addr)) (fp : List Addr), PG (X.blk s H scope (compEnvC scope cl C X.env) fp) tg g) (ht : ∀ (s : Shared) (H : Hp) (C : Addr) (cl : List (Str × Addr)) (fp : List Addr), PTs (X.blk s H scope (compEnvC scope cl C X.env) fp) ifs tt)
    (hk : ∀ (s : Shared) (H : Hp) (C : Addr) (cl : List (Str × Addr)) (fp : List Addr), PE (X.blk s H scope (compEnvC scope cl C X.env) fp) kx tk)
    (he : ∀ (s : Shared) (H : Hp) (C : Addr) (cl : List (Str × Addr)) (fp : List Addr), PE (X.blk s H scope (compEnvC scope cl C X.env) fp) vx tv) (hs : ∀ x, foldedSetIterable iter X.env x = pure x := by intro _; rfl) :
    PS X (.Assign [.Name y py] (.DictComp kx vx [⟨tg, iter, ifs, 0⟩] scope pos) spos) (tAsg (tDc wi g tt tk tv (own.map (·.2))) (gName i)) := by
  refine ⟨fun pins s σ H D I h => ?_⟩
  rw [exec_Assign_Name_used _ _ _ _ hsw]
  refine wpAny_bind (wpAny_standAt (wpAny_bind ?_))
  show wpAny _ X.A (do let _ ← comprehension (.DictComp kx vx [⟨tg, iter, ifs, 0⟩] scope pos) scope X.env (firstIterPos [⟨tg, iter, ifs, 0⟩] pos) newDict false (eval iter X.env) (some (assign (.Name y py) X.env))) _ _ s
  have h : tDc wi g tt tk tv (own.map (·.2)) σ H (fun x H1 => gName i x σ H1 D.nx) := h
  refine wpAny_bind (thn (dc_core (Qf := fun _ s' => SP X pins D .next s') hc hN I hi ok hg ht hk he hs h fun L C s' m H' I' q hn f => ?_) fun _ s' hq => wpAny_pure (wpAny_pure hq))
  show wpAny _ _ (assign (.Name y py) X.env (.ref L)) _ _ _
  refine wpAny_assign_Name (store_ok2 (v := V.ref L) I' hN hy (.inl hyl) rfl (fun s2 I2 ⟨a, sb, ha⟩ => ?_) (.inr hyl))
  obtain ⟨f0, f1, f2, f3, f4, f5⟩ := f
  have haC : C ≠ a := by
    rcases ha with z | z
    · rw [z]; exact f1
    · exact fun e => f4 y a z e.symm
  refine ⟨m, hn.sameBut sb haC, fun h3 sb3 => ?_⟩
  exact ⟨_, H', I2.turned (t' := s2.toks) (fun b o hb e => (sb3.2 b hb).trans e) f0 f1 f3 f4 f5, q⟩
theorem psm_setLc (i : Nat) {y : Str} {py : Pos} {elt tg iter : Expr} {ifs : List Expr} {scope : Scope} {vs : List Nat} {pos spos : Pos} {s : Env → AH → Out Src} {g : T → Env → Option Env} {c : EB} {m : EM} (own : List (Str × Nat)) (hc : X.calm = true) (hN : X.N.Nodup) (hi : PIm G X W0 tg iter s) (ok : BlkOk X.N X.env.scope scope own) (hv : own.map (·.2) = vs)
    (hg : ∀ (s : Shared) (H : Hp) (C : Addr) (cl : List (Str × Addr)) (fp : List Addr), PGm G (X.blk s H scope (compEnvC scope cl C X.env) fp) vs tg g)
    (ht : ∀ (s : Shared) (H : Hp) (C : Addr) (cl : List (Str × Addr)) (fp : List Addr), ptsOf G (X.blk s H scope (compEnvC scope cl C X.env) fp) W0 ifs c)
    (he : ∀ (s : Shared) (H : Hp) (C : Addr) (cl : List (Str × Addr)) (fp : List Addr), PEm G (X.blk s H scope (compEnvC scope cl C X.env) fp) W0 elt m) (hy : X.N[i]? = some y := by rfl) (hyl : X.env.scope.names.lookup y = some .local := by rfl)
    (hsw : swapsWith (.ListComp elt [⟨tg, iter, ifs, 0⟩] scope pos) (some (.Name y py)) spos.line X.env = pure true := by exact sw_true rfl rfl rfl (by decide +kernel)) (hs : ∀ x, foldedSetIterable iter X.env x = pure x := by intro _; rfl) :
    PSm G X W (.Assign [.Name y py] (.ListComp elt [⟨tg, iter, ifs, 0⟩] scope pos) spos) (mSet i fun env h => (mComp vs s g c m env h).noX) := by
  subst hv
  exact PS.imp (ps_setLc (wi := tiOf G X.K W0 s) (g := tgOf G X.K _ g) (tt := ttOf G X.K W0 c) (te := teOf G X.K W0 m) hc hN hy hyl hsw hi ok hg ht he hs) (setC_ok lc_ok)
theorem psm_setDc (i : Nat) {y : Str} {py : Pos} {kx vx tg iter : Expr} {ifs : List Expr} {scope : Scope} {vs : List Nat} {pos spos : Pos} {s : Env → AH → Out Src} {g : T → Env → Option Env} {c : EB} {mk mv : EM} (own : List (Str × Nat)) (hc : X.calm = true) (hN : X.N.Nodup) (hi : PIm G X W0 tg iter s) (ok : BlkOk X.N X.env.scope scope own) (hv : own.map (·.2) = vs)
    (hg : ∀ (s : Shared) (H : Hp) (C : Addr) (cl : List (Str × Addr)) (fp : List Addr), PGm G (X.blk s H scope (compEnvC scope cl C X.env) fp) vs tg g)
    (ht : ∀ (s : Shared) (H : Hp) (C : Addr) (cl : List (Str × Addr)) (fp : List Addr), ptsOf G (X.blk s H scope (compEnvC scope cl C X.env) fp) W0 ifs c)
    (hk : ∀ (s : Shared) (H : Hp) (C : Addr) (cl : List (Str × Addr)) (fp : List Addr), PEm G (X.blk s H scope (compEnvC scope cl C X.env) fp) W0 kx mk)
    (he : ∀ (s : Shared) (H : Hp) (C : Addr) (cl : List (Str × Addr)) (fp : List Addr), PEm G (X.blk s H scope (compEnvC scope cl C X.env) fp) W0 vx mv) (hy : X.N[i]? = some y := by rfl) (hyl : X.env.scope.names.lookup y = some .local := by rfl)
    (hsw : swapsWith (.DictComp kx vx [⟨tg, iter, ifs, 0⟩] scope pos) (some (.Name y py)) spos.line X.env = pure true := by exact sw_trueD rfl rfl rfl (by decide +kernel)) (hs : ∀ x, foldedSetIterable iter X.env x = pure x := by intro _; rfl) :
    PSm G X W (.Assign [.Name y py] (.DictComp kx vx [⟨tg, iter, ifs, 0⟩] scope pos) spos) (mSet i fun env h => (mDc vs s g c mk mv env h).noX) := by
  subst hv
  exact PS.imp (ps_setDc (wi := tiOf G X.K W0 s) (g := tgOf G X.K _ g) (tt := ttOf G X.K W0 c) (tk := teOf G X.K W0 mk) (tv := teOf G X.K W0 mv) hc hN hy hyl hsw hi ok hg ht hk he hs) (setC_ok dc_ok)
end
end M
namespace M
open PySem L2 PySem.Spec PyProof.Rows
section
variable {G : CT} {X : Cx} {W : WX} {K : PySem.W.Frag} {μ : Mu} {H : Hp} {h : AH}
/-! ### raise -/
abbrev veT : List Value := [.type "ValueError", .type "Exception", .type "BaseException", .type "object"]
/-- an own exception without __init__ -/
structure X0Ok (G : CT) (K : PySem.W.Frag) (mg : Str → Option Value) (x : Str) (c : Nat) : Prop where
  q : PySem.W.excIn K (G.xc c) veT "ValueError.__new__" = true
  gl : mg x = some (.ref (G.xc c))
  kp : PySem.W.keepIn K (.ref (G.xc c)) = true
  ex : PySem.W.subIn K (.ref (G.xc c)) (.type "BaseException") = some true
  ty : PySem.W.typeIn K (.ref (G.xc c)) = some (.type "type")
theorem pmk_own0 {C : Addr} {bmB : List Value} {B newId initId : String} {x : Str} {p pos : Pos} (F : ExcBaseFacts B newId initId bmB) (q : PySem.W.excIn X.K C bmB newId = true) (gC : X.mg x = some (.ref C)) (kC : PySem.W.keepIn X.K (.ref C) = true) (r : Raises X (.ref C)) (hg : Gl X x)
    (hdb : (x == ("__debug__" : Str)) = false := by decide) : PMk X (.Call (.Name x p) [] [] pos) (fun _ H Q => Q (.ref C) none H) := by
  intro pins s σ H Q I h
  refine wpAny_Call_Name_kw (ld_glob I hg gC ?_ hdb)
  refine PySem.W.callWith_K0 I.kIn kC ?_
  show wpAny _ _ (call (.ref C) []) _ _ _
  obtain ⟨bm, N, nm, qn, bs, hdct, sn, sub, ab, col, dd, k0, k1, k2, k3, k5, mN, hC, hN, hni, T⟩ := exc_obj I.kIn q
  refine wpAny_call_exc_subT F T hC hN hni (fun h' e hm => ?_) (by show 0 ≤ sizeLine; omega)
  exact mk_of I hm r h (I.hok.gone hm.new)
def mRaise0 (c : Nat) : SM := fun env h => .ex ⟨c, none⟩ env h
theorem psm_raise0 {x : Str} {c : Nat} {p pos pos' : Pos} (A : X0Ok G X.K X.mg x c) (hc : X.calm = true) (tk : Takes X W) (hg : Gl X x := by rfl) (hdb : (x == ("__debug__" : Str)) = false := by decide) :
    PSm G X W (.Raise (some (.Call (.Name x p) [] [] pos)) none pos') (mRaise0 c) :=
  PS.imp (ps_raise hc tk (pmk_own0 PySem.F.excBase_ValueError A.q A.gl A.kp (raises_own A.ex A.ty) hg hdb)) fun D σ H q => by
    obtain ⟨μ, env, h, r, re, w⟩ := q
    exact w μ σ H _ none Ext.refl r re ⟨rfl, rfl⟩
/-- what __init__(self, f): self.f = f promises -/
def spO (f : Str) (C : Addr) : Sp := fun vs H Q _ => ∃ a v, vs = [.ref a, v] ∧ H a = some (exo a C none) ∧ ∀ dx, H dx = none → dx ≠ a → Q .non (upd (upd H dx (exd dx [(f, v)])) a (exo a C (some dx)))
structure X1Ok (G : CT) (P : Program) (w : World) (K : PySem.W.Frag) (mg : Str → Option Value) (base : Heap) (x f : Str) (c : Nat) : Prop where
  oex : OexC K (G.xc c)
  gl : mg x = some (.ref (G.xc c))
  init : ∃ fI fd, PySem.W.findIn K (.ref (G.xc c)) "__init__" = some (some (.ref fI)) ∧ PySem.W.typeIn K (.ref fI) = some (.type "function") ∧ FnOk P w K mg base CX0 1 fI fd ["self", f] (spO f (G.xc c)) ∧ Binds K fd ["self", f] []
  fld : f = XF c
/-- what the text says of it -/
structure X1Tx (G : CT) (K : PySem.W.Frag) (mg : Str → Option Value) (x f qual : Str) (st : Stmt) (c : Nat) : Prop where
  oex : OexC K (G.xc c)
  gl : mg x = some (.ref (G.xc c))
  init : ∃ fI fd, PySem.W.findIn K (.ref (G.xc c)) "__init__" = some (some (.ref fI)) ∧ PySem.W.typeIn K (.ref fI) = some (.type "function") ∧ Fun K "__init__" qual st fI fd ∧ Binds K fd ["self", f] []
  no : PySem.W.findIn K (.ref (G.xc c)) f = some none
theorem X1Tx.ok {P : Program} {w : World} {mg : Str → Option Value} {base : Heap} {x f qual : Str} {st : Stmt} {c : Nat} (T : X1Tx G K mg x f qual st c) (hf : f = XF c) (S : FnScope ["self", f] ["self", f] (defScope st))
    (hb : ∀ (fI : Addr) (cdv : Value) (A : Around) (outer : List PySem.Env) (s : Shared) (H : Hp) (E : XK), PSs (cxOf CX0 P w K mg base ["self", f] qual (defScope st) fI cdv A outer s H E).nox (defBody st) (tOst K f (tVar 0) (tVar 1))) : X1Ok G P w K mg base x f c := by
  obtain ⟨fI, fd, h1, h2, F, b⟩ := T.init
  refine ⟨T.oex, T.gl, ⟨fI, fd, h1, h2, ?_, b⟩, hf⟩
  refine F.ok S (fun vs H Q E h => ?_) (fun cdv A outer s H vs Q E hr h => ?_)
  · obtain ⟨a, v, rfl, _⟩ := h
    rfl
  · obtain ⟨a, v, rfl, ea, k⟩ := h
    refine ⟨_, hb fI cdv A outer s H E, ?_⟩
    exact ⟨v, rfl, .ref a, rfl, a, G.xc c, rfl, T.oex, T.no, .inl ⟨ea, fun dx n ne => k dx n ne⟩⟩
def mRaise1 (c : Nat) (m : EM) : SM := fun env h => (m env h).st env fun t h1 => .ex ⟨c, some t⟩ env h1
theorem psm_raise1 {x f : Str} {c k : Nat} {e : Expr} {m : EM} {p pos pos' : Pos} (A : X1Ok G X.prog X.w X.K X.mg X.base x f c) (hc : X.calm = true) (tk : Takes X W) (hr : Room k X.A) (hk : 2 ≤ k) (he : PEm G X W e m) (hg : Gl X x := by rfl) (hdb : (x == ("__debug__" : Str)) = false := by decide)
    (hs : starEach [e] X.env = (false, eval e X.env) :: starEach [] X.env := by rfl) (hpl : (backTo pos (starEach [] X.env)).any (·.1) = false := by rfl) :
    PSm G X W (.Raise (some (.Call (.Name x p) [e] [] pos)) none pos') (mRaise1 c m) := by
  obtain ⟨fI, fd, h1, h2, F, b⟩ := A.init
  refine PS.imp (ps_raise hc tk (pmk_oex (dvs := []) A.oex h1 h2 F (hr.mono hk) b .nil pass0 hg A.gl (pa_cons he pa_nil hs) hdb hs hpl)) fun D σ H q => ?_
  obtain ⟨μ, env, h, r, re, w⟩ := q
  refine ⟨μ, env, h, r, re, (WantS.expr re w).mp fun t h1 μ1 H1 _ e1 r1 ⟨_, _, w1⟩ v iv => ⟨by show 1 ≤ 1000; decide, fun a na => ?_⟩⟩
  refine ⟨a, v, rfl, upd_same, fun dx nd ne => ⟨rfl, dx, [(f, v)], upd_same, ?_, ?_, ?_⟩⟩
  · rw [upd_ne ne, upd_same]
  · rw [upd_ne ne] at nd
    exact nd
  · rw [upd_ne ne] at nd
    have eH : upd (del (upd (upd (upd H1 a (exo a (G.xc c) none)) dx (exd dx [(f, v)])) a (exo a (G.xc c) (some dx))) a) dx (.xd [(f, v)]) = upd H1 dx (.xd [(f, v)]) := by
      funext b
      by_cases hb : b = dx
      · rw [hb, upd_same, upd_same]
      · rw [upd_ne hb, upd_ne hb]
        by_cases hba : b = a
        · rw [hba, del_same, na]
        · rw [del_ne hba, upd_ne hba, upd_ne hb, upd_ne hba]
    rw [eH]
    have ee : Ext μ1 H1 μ1 (upd H1 dx (.xd [(f, v)])) := ext_new nd
    exact w1 μ1 σ _ _ (some dx) ee (r1.new nd) ((re.mono e1).mono ee) ⟨rfl, dx, v, rfl, by rw [upd_same, A.fld], iv.mono ee⟩

/-! ### try -/
/-- which errors the clause takes -/
def XmOk (G : CT) (K : PySem.W.Frag) (c : Nat) (cs : List (Nat × Bool)) : Prop := ∀ p ∈ cs, PySem.W.exmOne K (.ref (G.xc p.1)) (.ref (G.xc c)) = some p.2
theorem xm_of {c : Nat} {cs : List (Nat × Bool)} (A : XmOk G K c cs) {n : Nat} {b : Bool} (e : cs.lookup n = some b) : PySem.W.exmOne K (.ref (G.xc n)) (.ref (G.xc c)) = some b := by
  have : (n, b) ∈ cs := by
    clear A
    induction cs with
    | nil => cases e
    | cons p r ih =>
      obtain ⟨k, v⟩ := p
      rw [List.lookup_cons] at e
      split at e
      · next h =>
        cases e
        rw [eq_of_beq h]
        exact List.mem_cons_self
      · exact List.mem_cons_of_mem _ (ih e)
  exact A _ this
def mTry (cs : List (Nat × Bool)) (body suite : SM) : SM := fun env h => match body env h with
  | .ex x env' h' => match cs.lookup x.c with
    | some true => suite env' h'
    | some false => .ex x env' h'
    | none => .bad
  | o => o
theorem psm_try0 {x : Str} {c : Nat} {cs : List (Nat × Bool)} {body suite : List Stmt} {b₀ : Stmt} {np pos pos' : Pos} {mb ms : SM} (xm : XmOk G X.K c cs) (hc : X.mg x = some (.ref (G.xc c))) (hs : X.stack = X.env :: X.outer) (hf : X.env.frame = some X.env.locals) (tk : Takes X W)
    (hb : ∀ (W' : WX) (pn : List (Addr × Obj)) (xe : Value → Shared → Prop), Takes (X.tr pn xe) W' → PassesOwn (model X.prog X.w) X.A X.env xe → PSsm G (X.tr pn xe) W' body mb)
    (hsu : ∀ (a : Addr) (oe : Obj) (pn : List (Addr × Obj)), PSsm G (X.suite a ((a, oe) :: pn)) W (b₀ :: suite) ms) (hg : Gl X x := by rfl) (hdb : (x == ("__debug__" : Str)) = false := by decide) :
    PSm G X W (.Try body [.ExceptHandler (some (.Name x np)) none (b₀ :: suite) pos'] [] [] pos) (mTry cs mb ms) := by
  refine PS.imp (ps_try_only (c := .ref (G.xc c)) (tb := fun W' => tsOf G X.K W' mb) (ts := fun _ _ _ => tsOf G X.K W ms) (Wout := W) hs hf ⟨hg, hdb, .inl hc⟩ tk hb fun a oe cls d pn _ _ => hsu a oe pn) fun D σ H q => ?_
  obtain ⟨μ, env, h, r, re, w⟩ := q
  refine ⟨μ, env, h, r, re, ?_⟩
  unfold mTry at w
  cases e : mb env h with
  | ex x env' h' =>
    rw [e] at w
    dsimp only at w
    refine fun μ' σ' H' cls d e' r' re' ix => ?_
    obtain ⟨rfl, ia⟩ := ix
    cases l : cs.lookup x.c with
    | none => rw [l] at w; exact w.elim
    | some b =>
      rw [l] at w
      refine ⟨b, xm_of xm l, fun eb a na => ?_, fun eb => ?_⟩
      · subst eb
        exact ⟨μ', env', h', r', re', WantS.up (o := ms env' h') e' w⟩
      · subst eb
        exact w μ' σ' H' _ d e' r' re' ⟨rfl, ia⟩
  | nx env' h' => rw [e] at w; exact w
  | rt t h' => rw [e] at w; exact w
  | bk env' h' => rw [e] at w; exact w
  | ct env' h' => rw [e] at w; exact w
  | bad => rw [e] at w; exact w
/-- except X as e: y = e.f -/
def mTryF (c : Nat) (cs : List (Nat × Bool)) (i j : Nat) (body : SM) : SM := fun env h => match body env h with
  | .ex x env' h' => match cs.lookup x.c with
    | some true => if x.c = c ∧ i < env'.length then match x.arg with
      | some t => .nx ((env'.set j (some t)).set i none) h'
      | none => .bad else .bad
    | some false => .ex x env' h'
    | none => .bad
  | o => o
theorem psm_tryF {x n y f : Str} {c i j : Nat} {cs : List (Nat × Bool)} {body : List Stmt} {np p1 p2 p3 p4 pos pos' : Pos} {mb : SM} (xm : XmOk G X.K c cs) (hc : X.mg x = some (.ref (G.xc c))) (xf : XfC X.K (G.xc c)) (no : PySem.W.findIn X.K (.ref (G.xc c)) f = some none) (ef : f = XF c) (hs : X.stack = X.env :: X.outer) (hf : X.env.frame = some X.env.locals) (hN : X.N.Nodup) (tk : Takes X W)
    (hb : ∀ (W' : WX) (pn : List (Addr × Obj)) (xe : Value → Shared → Prop), Takes (X.tr pn xe) W' → PassesOwn (model X.prog X.w) X.A X.env xe → PSsm G (X.tr pn xe) W' body mb)
    (hi : X.N[i]? = some n := by rfl) (hln : X.env.kindOf n = some .local := by rfl) (hj : X.N[j]? = some y := by rfl) (hij : i ≠ j := by decide) (hy : Loc X.env.scope y := by first | exact Or.inl rfl | exact Or.inr rfl)
    (hst : ∀ (a : Addr) (oe : Obj) (cls : Value) (d : Option Addr) (pn : List (Addr × Obj)), Zc cls d oe → (∃ vs, oe.data = .fields vs) → PS (X.suite a ((a, oe) :: pn)) (.Assign [.Name y p1] (.Attribute (.Name n p2) f p3) p4) (tAsg (tXf a cls d (G.xc c) f (tVar i)) (gName j)))
    (hg : Gl X x := by rfl) (hdb : (x == ("__debug__" : Str)) = false := by decide) :
    PSm G X W (.Try body [.ExceptHandler (some (.Name x np)) (some n) [.Assign [.Name y p1] (.Attribute (.Name n p2) f p3) p4] pos'] [] [] pos) (mTryF c cs i j mb) := by
  refine PS.imp (ps_try_as (c := .ref (G.xc c)) (i := i) (tb := fun W' => tsOf G X.K W' mb) (Wout := W) hs hf hN hi hln ⟨hg, hdb, .inl hc⟩ tk hb fun a oe cls d pn hz hv => pss_one (hst a oe cls d pn hz hv)) fun D σ H q => ?_
  obtain ⟨μ, env, h, r, re, w⟩ := q
  refine ⟨μ, env, h, r, re, ?_⟩
  unfold mTryF at w
  cases e : mb env h with
  | ex x env' h' =>
    rw [e] at w
    dsimp only at w
    refine fun μ' σ' H' cls d e' r' re' ix => ?_
    obtain ⟨rfl, ia⟩ := ix
    cases l : cs.lookup x.c with
    | none => rw [l] at w; exact w.elim
    | some b =>
      rw [l] at w
      refine ⟨b, xm_of xm l, fun eb a na => ?_, fun eb => ?_⟩
      · subst eb
        dsimp only at w
        split at w
        · next hcc =>
          obtain ⟨hxc, hil⟩ := hcc
          cases ea : x.arg with
          | none => rw [ea] at w; exact w.elim
          | some t =>
            rw [ea] at w ia
            obtain ⟨dd, v, rfl, hd, iv⟩ := ia
            have hsl : i < σ'.length := by rw [re'.len]; exact hil
            refine ⟨.ref a, List.getElem?_set_self hsl, rfl, by rw [hxc], dd, _, v, rfl, hd, by rw [ef, hxc]; simp [List.lookup], ?_⟩
            show D.nx (((σ'.set i (some (.ref a))).set j (some v)).set i none) H'
            rw [List.set_comm _ _ hij, List.set_set]
            exact w μ' _ H' e' r' ((re'.set j iv).wipe i)
        · exact w.elim
      · subst eb
        exact w μ' σ' H' _ d e' r' re' ⟨rfl, ia⟩
  | nx env' h' => rw [e] at w; exact w
  | rt t h' => rw [e] at w; exact w
  | bk env' h' => rw [e] at w; exact w
  | ct env' h' => rw [e] at w; exact w
  | bad => rw [e] at w; exact w
end
end M
namespace M
open PySem L2 PySem.Spec PyProof.Rows
section
variable {X : Cx} {CX : CXT} {k : Nat} {f C : Addr} {fd : FuncData} {ps : List Str} {sp : Sp} {E : L2.St → XK} {x m : Str} {p pos apos : Pos} {e o : Expr} {es : List Expr} {ta : TE} {t : TA}
/-! ### C(..), o.m(..) that may raise, the wish told at the slots -/
theorem run_makeS {pins : List (Addr × Obj)} {σ : L2.St} {H : Hp} {s : Shared} {Q : VK} {us : List Value} {vs : List V} (Mx : Mk X.K C f) (F : FnOk X.prog X.w X.K X.mg X.base CX k f fd ps sp) (hr : Room (k + 1) X.A) (hb : Binds X.K fd ps [])
    (hx : PassesAt CX X σ (E σ)) (I : Inv X pins σ H s) (r : Vals vs us)
    (h : ∀ x dx, H x = none → H dx = none → dx ≠ x → sp (.ref x :: vs) (upd (upd H dx (.own x)) x (.ins C dx [])) (fun v H2 => v = .non ∧ Q (.ref x) H2) (E σ)) :
    wpAny (model X.prog X.w) X.A (call (.ref C) us) (EP X pins σ Q) X.xe s := by
  have hq := h (s.heap.objs.size + 1) s.heap.objs.size (I.hok.fresh (Nat.le_succ _)) (I.hok.fresh (Nat.le_refl _)) (Nat.ne_of_lt (Nat.lt_succ_self _))
  have I2 := Inv.made (C := C) I
  have r2 : Vals (V.ref (s.heap.objs.size + 1) :: vs) (Value.ref (s.heap.objs.size + 1) :: us) := .cons rfl r
  have hl : (Value.ref (s.heap.objs.size + 1) :: us).length = ps.length := by
    have e := r2.length
    rw [F.len _ _ _ _ hq] at e
    exact e.symm
  have hb' := hb _ (Value.ref (s.heap.objs.size + 1) :: us) I2.kIn (by rw [List.append_nil]; exact hl)
  rw [List.append_nil] at hb'
  refine wpAny_call (make_map (f := f) I.kIn Mx.makes Mx.init (beq_iff_eq.mp Mx.fn) (codeAny_mono (F.run _ X.stack _ _ ⟨Value.ref (s.heap.objs.size + 1) :: us, []⟩ (Value.ref (s.heap.objs.size + 1) :: us) _ _ (E σ) (hr.make C us [])
    (I2.env0.make C us []) hb' r2 hq) fun r s' hq' => ?_))
  cases r with
  | error e => exact hx pins _ _ e s' I2 hq'
  | ok fl =>
    cases fl with
    | ret u =>
      obtain ⟨v, H', I3, rv, ev, q3⟩ := I2.after hq'
      subst ev
      exact ⟨rv, ⟨V.ref (s.heap.objs.size + 1), H', I3, rfl, q3⟩⟩
    | next => exact False.elim hq'
    | brk => exact False.elim hq'
    | cont => exact False.elim hq'
def tMakeS (C : Addr) (sp : Sp) (E : L2.St → XK) (t : TA) : TE := fun σ H Q => t σ H fun vs H1 => ∀ x dx, H1 x = none → H1 dx = none → dx ≠ x →
  sp (.ref x :: vs) (upd (upd H1 dx (.own x)) x (.ins C dx [])) (fun v H2 => v = .non ∧ Q (.ref x) H2) (E σ)
theorem pe_makeS (Mx : Mk X.K C f) (F : FnOk X.prog X.w X.K X.mg X.base CX k f fd ps sp) (hr : Room (k + 1) X.A) (hg : Gl X x) (hm : X.mg x = some (.ref C)) (hb : Binds X.K fd ps []) (hx : ∀ σ, PassesAt CX X σ (E σ))
    (ha : PA X (e :: es) t) (hdb : (x == ("__debug__" : Str)) = false := by decide) (he : starEach (e :: es) X.env = (false, eval e X.env) :: starEach es X.env := by rfl) (hpl : (backTo pos (starEach es X.env)).any (·.1) = false := by rfl) :
    PE X (.Call (.Name x p) (e :: es) [] pos) (tMakeS C sp E t) := by
  refine ⟨fun pins s σ H Q I h => ?_⟩
  refine wpAny_Call_Name_kw (ld_glob I hg hm ?_ hdb)
  refine PySem.W.callWith_K (h₀ := X.base) I.ok.mod.kin Mx.kp (thn (ha.run pos pins s σ H _ I h) fun us s1 ⟨vs, H1, I1, r, q⟩ => ⟨I1.kIn, ?_⟩) he hpl
  exact run_makeS Mx F hr hb (hx σ) I1 r q
def tMethS (C : Addr) (m : Str) (sp : Sp) (E : L2.St → XK) (ta : TE) (t : TA) : TE := fun σ H Q => ta σ H fun x H1 => ∃ a dx fs, x = .ref a ∧ H1 a = some (.ins C dx fs) ∧ fs.lookup m = none ∧ t σ H1 fun vs H2 => sp (.ref a :: vs) H2 Q (E σ)
theorem pe_methS {pl : Sem Bool} (he : PE X o ta) (c : Cls X.K C) (hm : Meth X.K C m f) (F : FnOk X.prog X.w X.K X.mg X.base CX k f fd ps sp) (hr : Room k X.A) (hb : Binds X.K fd ps []) (hx : ∀ σ, PassesAt CX X σ (E σ)) (ha : PA X (e :: es) t)
    (hst : starEach (e :: es) X.env = (false, eval e X.env) :: starEach es X.env := by rfl) (hpl : (backTo pos (starEach es X.env)).any (·.1) = false := by rfl)
    (ht : eval (.Call (.Attribute o m apos) (e :: es) [] pos) X.env = (do
      let ov ← eval o X.env
      standAt apos.atName
      let (f, first) ← holding [ov] (getMethod ov m pl)
      callWith pos f first (backTo pos (starEach (e :: es) X.env)) (backToKw pos (keywordEach [] X.env))) := by rfl) :
    PE X (.Call (.Attribute o m apos) (e :: es) [] pos) (tMethS C m sp E ta t) := by
  refine ⟨fun pins s σ H Q I h => ?_⟩
  refine PySem.W.methodCall_KW (pl := pl) (thn (he.run pins s σ H _ I h) fun u s1 ⟨x, H1, I1, rx, a, dx, fs, ex, ea, l, q⟩ => ?_) ht
  subst ex
  obtain rfl : u = Value.ref a := rx
  refine getmeth_ok I1 ea c hm l ?_
  refine PySem.W.callWith_K (first := [.ref a]) (h₀ := X.base) I.ok.mod.kin hm.kp (thn (ha.run pos pins s1 σ H1 _ I1 q) fun us s2 ⟨vs, H2, I2, r, q2⟩ => ⟨I2.kIn, ?_⟩) hst hpl
  exact run_fnS (us := .ref a :: us) (vs := .ref a :: vs) F hr hb (hx σ) I2 (.cons rfl r) q2
theorem pe_meth0S {pl : Sem Bool} (he : PE X o ta) (c : Cls X.K C) (hm : Meth X.K C m f) (F : FnOk X.prog X.w X.K X.mg X.base CX k f fd ps sp) (hr : Room k X.A) (hb : Binds X.K fd ps []) (hx : ∀ σ, PassesAt CX X σ (E σ))
    (ht : eval (.Call (.Attribute o m apos) [] [] pos) X.env = (do
      let ov ← eval o X.env
      standAt apos.atName
      let (f, first) ← holding [ov] (getMethod ov m pl)
      callWith pos f first (backTo pos (starEach [] X.env)) (backToKw pos (keywordEach [] X.env))) := by rfl) :
    PE X (.Call (.Attribute o m apos) [] [] pos) (tMethS C m sp E ta tNil) := by
  refine ⟨fun pins s σ H Q I h => ?_⟩
  refine PySem.W.methodCall_KW (pl := pl) (thn (he.run pins s σ H _ I h) fun u s1 ⟨x, H1, I1, rx, a, dx, fs, ex, ea, l, q⟩ => ?_) ht
  subst ex
  obtain rfl : u = Value.ref a := rx
  refine getmeth_ok I1 ea c hm l ?_
  exact PySem.W.callWith_K0 (first := [.ref a]) I1.kIn hm.kp (run_fnS (us := [.ref a]) (vs := [.ref a]) F hr hb (hx σ) I1 (.cons rfl .nil) q)
end
section
variable {G : CT} {X : Cx} {W : WX} {K : PySem.W.Frag} {μ : Mu} {H : Hp} {h : AH}
theorem pm_methX {o e : Expr} {es : List Expr} {c n k j : Nat} {mn : Str} {F : FM} {mo : EM} {m : EL} {apos pos : Pos} {pl : Sem Bool} (A : MtAt G X.prog X.w X.K X.mg X.base (L2.CX X.prog X.w) c mn k (spX G X.K n F)) (tk : Takes X W) (hr : Room j X.A) (hk : k ≤ j) (ho : PEm G X W o mo) (ha : PAm G X W (e :: es) m)
    (hst : starEach (e :: es) X.env = (false, eval e X.env) :: starEach es X.env := by rfl) (hpl : (backTo pos (starEach es X.env)).any (·.1) = false := by rfl)
    (ht : eval (.Call (.Attribute o mn apos) (e :: es) [] pos) X.env = (do
      let ov ← eval o X.env
      standAt apos.atName
      let (f, first) ← holding [ov] (getMethod ov mn pl)
      callWith pos f first (backTo pos (starEach (e :: es) X.env)) (backToKw pos (keywordEach [] X.env))) := by rfl) :
    PEm G X W (.Call (.Attribute o mn apos) (e :: es) [] pos) (mMethX c n F mo m) := by
  obtain ⟨f, fd, ps, hF, hm, hb⟩ := A.ex
  refine PE.imp (pe_methS (pl := pl) (E := WE W) ho A.cls hm hF (hr.mono hk) hb (fun σ => passAt tk σ) ha hst hpl ht) fun σ H Q q => ?_
  obtain ⟨μ, env, h, r, re, w⟩ := q
  refine ⟨μ, env, h, r, re, (Want.bind w).mp fun t h1 μ1 H1 _ e1 r1 ⟨_, _, w1⟩ v iv => ?_⟩
  cases iv with
  | @ins a dx c' ts vs s nl l =>
    dsimp only at w1
    split at w1
    · next hc =>
      subst hc
      refine ⟨a, dx, _, rfl, s, lookup_zip_none A.no, μ1, env, h1, r1, re.mono e1, (Want.bind w1).mp fun us h2 μ2 H2 _ e2 r2 ⟨_, _, w2⟩ ws iws => ?_⟩
      split at w2
      · next hn => exact ⟨μ2, .ins c' ts :: us, h2, r2, .cons ((Is.ins s nl l).mono e2) iws, hn, w2⟩
      · exact w2.elim
    · exact w1.elim
  | _ => exact w1.elim
theorem pm_meth0X {o : Expr} {c k j : Nat} {mn : Str} {F : FM} {mo : EM} {apos pos : Pos} {pl : Sem Bool} (A : MtAt G X.prog X.w X.K X.mg X.base (L2.CX X.prog X.w) c mn k (spX G X.K 1 F)) (tk : Takes X W) (hr : Room j X.A) (hk : k ≤ j) (ho : PEm G X W o mo)
    (ht : eval (.Call (.Attribute o mn apos) [] [] pos) X.env = (do
      let ov ← eval o X.env
      standAt apos.atName
      let (f, first) ← holding [ov] (getMethod ov mn pl)
      callWith pos f first (backTo pos (starEach [] X.env)) (backToKw pos (keywordEach [] X.env))) := by rfl) :
    PEm G X W (.Call (.Attribute o mn apos) [] [] pos) (mMethX c 1 F mo mNil) := by
  obtain ⟨f, fd, ps, hF, hm, hb⟩ := A.ex
  refine PE.imp (pe_meth0S (pl := pl) (E := WE W) ho A.cls hm hF (hr.mono hk) hb (fun σ => passAt tk σ) ht) fun σ H Q q => ?_
  obtain ⟨μ, env, h, r, re, w⟩ := q
  refine ⟨μ, env, h, r, re, (Want.bind w).mp fun t h1 μ1 H1 _ e1 r1 ⟨_, _, w1⟩ v iv => ?_⟩
  cases iv with
  | @ins a dx c' ts vs s nl l =>
    dsimp only at w1
    split at w1
    · next hc =>
      subst hc
      exact ⟨a, dx, _, rfl, s, lookup_zip_none A.no, ⟨μ1, [.ins c' ts], h1, r1, .cons (Is.ins s nl l) .nil, rfl, w1⟩⟩
    · exact w1.elim
  | _ => exact w1.elim
/-! ### an instance made by an __init__ with a semantics F of its own -/
def spM (G : CT) (K : PySem.W.Frag) (c n : Nat) (F : FM) (R : Bool) : Sp := fun vs H Q E => ∃ x dx ws H0 μ ts h, vs = .ref x :: ws ∧ H = upd (upd H0 dx (.own x)) x (.ins (G.cl c) dx []) ∧ H0 x = none ∧ H0 dx = none ∧ dx ≠ x ∧ RepH G K μ H0 h ∧ IsL G K μ H0 ts ws ∧ ts.length = n ∧
  Want G K (fun a b H' => R = true ∧ E a b H') (F ts h) μ H0 (fun t _ μ' H' => Is G K μ' H' t (.ref x) → Q .non H')
theorem spM_len {c n : Nat} {F : FM} {R : Bool} {vs : List V} {Q : VK} {E : XK} (q : spM G K c n F R vs H Q E) : vs.length = n + 1 := by
  obtain ⟨x, dx, ws, H0, μ, ts, h, rfl, _, _, _, _, _, l, hn, _⟩ := q
  rw [List.length_cons, ← l.length, hn]
def mMakeF (n : Nat) (F : FM) (m : EL) : EM := fun env h => (m env h).bind fun ts h1 => if ts.length = n then (F ts h1).noX else .bad
def mMakeX (n : Nat) (F : FM) (m : EL) : EM := fun env h => (m env h).bind fun ts h1 => if ts.length = n then F ts h1 else .bad
theorem pm_makeF {x : Str} {p pos : Pos} {e : Expr} {es : List Expr} {m : EL} {k j c n : Nat} {F : FM} (A : MkAt G X.prog X.w X.K X.mg X.base CX0 x c k (spM G X.K c n F false)) (hr : Room j X.A) (hk : k + 1 ≤ j) (ha : PAm G X W (e :: es) m) (hg : Gl X x := by rfl) (hdb : (x == ("__debug__" : Str)) = false := by decide)
    (he : starEach (e :: es) X.env = (false, eval e X.env) :: starEach es X.env := by rfl) (hpl : (backTo pos (starEach es X.env)).any (·.1) = false := by rfl) : PEm G X W (.Call (.Name x p) (e :: es) [] pos) (mMakeF n F m) := by
  obtain ⟨f, fd, ps, hF, hm, hb⟩ := A.ex
  refine PE.imp (pe_make hm hF (hr.mono hk) hg A.mg hb .nil pass0 ha hdb he hpl) fun σ H Q q => ?_
  obtain ⟨μ, env, h, r, re, w⟩ := q
  refine ⟨μ, env, h, r, re, (Want.bind w).mp fun ts h1 μ1 H1 _ e1 r1 ⟨_, _, w1⟩ vs ivs => ?_⟩
  split at w1
  · next hn =>
    intro y dx ny ndx ne
    refine ⟨y, dx, vs, H1, μ1, ts, h1, by rw [List.append_nil], rfl, ny, ndx, ne, r1, ivs, hn, ?_⟩
    exact (Want.noX (W' := fun a b H' => false = true ∧ _) w1).mp fun t h2 μ2 H2 _ e2 r2 w2 i2 => ⟨rfl, w2 _ i2⟩
  · exact w1.elim
theorem pm_makeX {x : Str} {p pos : Pos} {e : Expr} {es : List Expr} {m : EL} {k j c n : Nat} {F : FM} (A : MkAt G X.prog X.w X.K X.mg X.base (L2.CX X.prog X.w) x c k (spM G X.K c n F true)) (tk : Takes X W) (hr : Room j X.A) (hk : k + 1 ≤ j) (ha : PAm G X W (e :: es) m) (hg : Gl X x := by rfl) (hdb : (x == ("__debug__" : Str)) = false := by decide)
    (he : starEach (e :: es) X.env = (false, eval e X.env) :: starEach es X.env := by rfl) (hpl : (backTo pos (starEach es X.env)).any (·.1) = false := by rfl) : PEm G X W (.Call (.Name x p) (e :: es) [] pos) (mMakeX n F m) := by
  obtain ⟨f, fd, ps, hF, hm, hb⟩ := A.ex
  refine PE.imp (pe_makeS (E := WE W) hm hF (hr.mono hk) hg A.mg hb (fun σ => passAt tk σ) ha hdb he hpl) fun σ H Q q => ?_
  obtain ⟨μ, env, h, r, re, w⟩ := q
  refine ⟨μ, env, h, r, re, (Want.bind w).mp fun ts h1 μ1 H1 _ e1 r1 ⟨_, _, w1⟩ vs ivs => ?_⟩
  split at w1
  · next hn =>
    intro y dx ny ndx ne
    refine ⟨y, dx, vs, H1, μ1, ts, h1, rfl, rfl, ny, ndx, ne, r1, ivs, hn, ?_⟩
    cases q : F ts h1 with
    | ok t h2 =>
      rw [q] at w1
      exact fun μ2 H2 e2 r2 i2 => ⟨rfl, w1 μ2 H2 e2 r2 _ i2⟩
    | ex xx h2 =>
      rw [q] at w1
      exact fun μ2 H2 c d e2 r2 i2 => ⟨rfl, w1 μ2 H2 c d e2 r2 i2⟩
    | bad => rw [q] at w1; exact w1.elim
  · exact w1.elim
/-! ### the stores of an __init__ -/
/-- at x stands an instance that has the first n of its fields -/
def tSt (G : CT) (K : PySem.W.Frag) (W : WX) (c n : Nat) (m : EL) : TS := fun D σ H => ∃ μ0 H0 μ env h x dx us vs, σ[0]? = some (some (V.ref x)) ∧ H x = some (.ins (G.cl c) dx (((FL c).take n).zip vs)) ∧ vs.length = n ∧ H0 x = none ∧ x ∉ μ.m ∧ x ∉ μ.z ∧ Ext μ0 H0 μ H ∧
  RepH G K μ H h ∧ RepE G K μ H σ env ∧ IsL G K μ H us vs ∧ match m env h with
    | .ok ts h' => ts.length + n = (FL c).length ∧ ∀ μ' H' σ', Ext μ0 H0 μ' H' → RepH G K μ' H' h' → Is G K μ' H' (.ins c (us ++ ts)) (.ref x) → D.nx σ' H'
    | _ => False
theorem st_nil {c n : Nat} (hn : (FL c).length = n) : PSs X [] (tSt G X.K W c n mNil) := PSs.imp pss_nil fun D σ H q => by
  obtain ⟨μ0, H0, μ, env, h, x, dx, us, vs, s0, hx, hl, hx0, xm, xz, e0, r, re, il, w⟩ := q
  obtain ⟨_, w⟩ := w
  refine w μ H σ e0 r ?_
  rw [List.append_nil]
  rw [← hn, List.take_length] at hx
  exact .ins hx (by rw [hl, hn]) il
theorem putF_app {f : Str} {v : V} : ∀ {ks : List Str} {vs : List V}, f ∉ ks → ks.length = vs.length → putF f v (ks.zip vs) = (ks ++ [f]).zip (vs ++ [v])
  | [], [], _, _ => rfl
  | k :: ks, u :: vs, h, hl => by
    have hk : ¬ (k = f) := fun z => h (by rw [z]; exact List.mem_cons_self)
    show (if k = f then _ else (k, u) :: putF f v (ks.zip vs)) = _
    rw [if_neg hk, putF_app (fun z => h (List.mem_cons_of_mem _ z)) (by simpa using hl)]
    rfl
  | [], _ :: _, _, hl => by cases hl
  | _ :: _, [], _, hl => by cases hl
def notFull (ks : List Str) : Bool := !(ks == FL 0 || ks == FL 1 || ks == FL 2 || ks == [("?" : Str)])
theorem cFull_no {ks : List Str} {vs : List V} (hl : ks.length = vs.length) (h : notFull ks = true) : cFull (ks.zip vs) = false := by
  unfold cFull
  have e : (ks.zip vs).map (·.1) = ks := List.map_fst_zip (by omega)
  simp only [e]
  unfold notFull at h
  simpa using h
theorem st_cons {c n : Nat} {f sx : Str} {e : Expr} {p1 p2 p3 : Pos} {rest : List Stmt} {m1 : EM} {m2 : EL} (cls : Cls X.K (G.cl c)) (no : NoAttr X.K (G.cl c) f) (hf : (FL c)[n]? = some f) (hfn : f ∉ (FL c).take n) (hinc : notFull ((FL c).take n) = true) (h0 : PE X (.Name sx p1) (tVar 0)) (he : PEm G X W e m1) (hrest : PSs X rest (tSt G X.K W c (n + 1) m2)) (hs : swapsWith e (some (.Attribute (.Name sx p1) f p2)) p3.line X.env = pure false := by rfl) :
    PSs X (.Assign [.Attribute (.Name sx p1) f p2] e p3 :: rest) (tSt G X.K W c n (mCons m1 m2)) := PSs.imp (pss_cons (ps_fld h0 he hs) hrest) fun D σ H q => by
  obtain ⟨μ0, H0, μ, env, h, x, dx, us, vs, s0, hx, hl, hx0, xm, xz, e0, r, re, il, w⟩ := q
  refine ⟨μ, env, h, r, re, ?_⟩
  unfold mCons at w
  have hnl : n < (FL c).length := (List.getElem?_eq_some_iff.mp hf).1
  cases q1 : m1 env h with
  | bad => rw [q1] at w; exact w.elim
  | ex xx h1 => rw [q1] at w; exact w.elim
  | ok t h1 =>
    rw [q1] at w
    refine fun μ1 H1 e1 r1 v iv => ?_
    have hx1 : H1 x = some (.ins (G.cl c) dx (((FL c).take n).zip vs)) := e1.fr _ _ hx xm
    have hkl : ((FL c).take n).length = vs.length := by rw [List.length_take, hl]; omega
    have hfl : (((FL c).take n).zip vs).length < 1000 := by
      rw [List.length_zip, hkl, hl, Nat.min_self]
      have : (FL c).length < 1000 := by
        match c with
        | 0 => decide
        | 1 => decide
        | 2 => decide
        | n + 3 => show 1 < 1000; decide
      omega
    have i0 : imm (.ins (G.cl c) dx (((FL c).take n).zip vs)) = false := cFull_no hkl hinc
    have xm1 : x ∉ μ1.m := e1.out hx xm
    have xz1 : x ∉ μ1.z := e1.outz hx xz
    have ep : putF f v (((FL c).take n).zip vs) = ((FL c).take (n + 1)).zip (vs ++ [v]) := by
      rw [putF_app hfn hkl, List.take_add_one, hf]
      rfl
    have sd : ExtI μ1 H1 μ1 (upd H1 x (.ins (G.cl c) dx (putF f v (((FL c).take n).zip vs)))) := extI_side xz1 hx1 i0
    refine ⟨.ref x, s0, x, G.cl c, dx, _, rfl, hx1, cls, no, hfl, μ0, H0, μ1, env, h1, x, dx, us ++ [t], vs ++ [v], s0, by rw [upd_same, ep], by simp [hl], hx0, xm1, xz1, ?_, r1.side xm1 xz1 hx1 i0, (re.mono e1).monoI sd, ((il.mono e1).append (.one iv)).monoI sd, ?_⟩
    · exact (e0.trans e1).side hx0
    · have w' : match (m2 env h1).bind fun ts h2 => Out.ok (t :: ts) h2 with
        | .ok ts h' => ts.length + n = (FL c).length ∧ ∀ μ' H' σ', Ext μ0 H0 μ' H' → RepH G X.K μ' H' h' → Is G X.K μ' H' (.ins c (us ++ ts)) (.ref x) → D.nx σ' H'
        | _ => False := w
      cases q2 : m2 env h1 with
      | bad => rw [q2] at w'; exact w'.elim
      | ex xx h2 => rw [q2] at w'; exact w'.elim
      | ok ts h2 =>
        rw [q2] at w'
        refine ⟨by have := w'.1; rw [List.length_cons] at this; omega, fun μ' H' σ' a b z => w'.2 μ' H' σ' a b ?_⟩
        rw [List.append_assoc] at z
        exact z
/-- what an __init__ of stores makes: N the number of its names -/
def F_st (c N : Nat) (m : EL) : FM := fun ts h => match m (none :: ts.map some ++ List.replicate (N - (ts.length + 1)) none) h with
  | .ok us h' => if us.length = (FL c).length then .ok (.ins c us) h' else .bad
  | _ => .bad
theorem repE_self {x : V} {ts : List T} {ws : List V} {N : List Str} (l : IsL G K μ H ts ws) (t : Option T) (ht : ∀ u, t = some u → Is G K μ H u x) : RepE G K μ H (L2.start N (x :: ws)) (t :: ts.map some ++ List.replicate (N.length - (ts.length + 1)) none) := by
  have b := repE_start (N := N.drop 1) l
  refine ⟨?_, fun i u e => ?_⟩
  · have := b.len
    unfold L2.start
    simp [l.length]
  · cases i with
    | zero =>
      cases e
      exact ⟨x, rfl, ht u rfl⟩
    | succ i =>
      have e' : (ts.map some ++ List.replicate (N.length - (ts.length + 1)) none)[i]? = some (some u) := e
      obtain ⟨v, q, iv⟩ := b.at_ i u (by
        rw [show (N.drop 1).length - ts.length = N.length - (ts.length + 1) by simp; omega]
        exact e')
      refine ⟨v, ?_, iv⟩
      unfold L2.start at q ⊢
      show (List.map some ws ++ List.replicate (N.length - (ws.length + 1)) none)[i]? = _
      rw [show N.length - (ws.length + 1) = (N.drop 1).length - ws.length by simp; omega]
      exact q
variable {P : Program} {w : World} {mg : Str → Option Value} {base : Heap}
theorem init_ok {qual : Str} {st : Stmt} {f : Addr} {fd : FuncData} {N ps : List Str} {c k n : Nat} {m : EL} (F : Fun K "__init__" qual st f fd) (S : FnScope N ps (defScope st)) (hn : n + 1 = ps.length)
    (hb : ∀ (cdv : Value) (A : Around) (outer : List PySem.Env) (s : Shared) (H : Hp) (E : XK), Room k (A.deeper (PyProof.Rows.envOfC qual (defScope st) s.heap.objs.size f cdv)) →
      PSs (cxOf CX0 P w K mg base N qual (defScope st) f cdv A outer s H E).nox (defBody st) (tSt G K W0 c 0 m)) : FnOk P w K mg base CX0 (k + 1) f fd ps (spM G K c n (F_st c N.length m) false) := by
  refine F.ok S (fun vs H Q E q => by rw [spM_len q, hn]) (fun cdv A outer s H vs Q E hr q => ?_)
  obtain ⟨x, dx, ws, H0, μ, ts, h, rfl, rfl, hx0, hdx0, ne, r, l, hl, w⟩ := q
  refine ⟨_, hb cdv A outer s _ E hr, ?_⟩
  have nx : upd H0 dx (.own x) x = none := by rw [upd_ne (Ne.symm ne)]; exact hx0
  have ee : Ext μ H0 μ (upd (upd H0 dx (.own x)) x (.ins (G.cl c) dx [])) := (ext_new hdx0).trans (ext_new nx)
  refine ⟨μ, H0, μ, _, h, x, dx, [], [], rfl, upd_same, rfl, hx0, r.notin hx0, r.notz hx0, ee, (r.new hdx0).new nx, repE_self (l.mono ee) none (fun u e => by cases e), .nil, ?_⟩
  unfold F_st at w
  cases q1 : m (none :: ts.map some ++ List.replicate (N.length - (ts.length + 1)) none) h with
  | bad => rw [q1] at w; exact w.elim
  | ex xx h1 => rw [q1] at w; exact w.elim
  | ok us h1 =>
    rw [q1] at w
    dsimp only at w
    split at w
    · next hu => exact ⟨hu, fun μ' H' σ' a b z => w μ' H' a b z⟩
    · exact w.elim
/-- .. behind one statement that may raise; its semantics does not look at self -/
def F_stX (c N : Nat) (mp : SM) (m : EL) (v : V) : FM := fun ts h => match mp (some (.raw v) :: ts.map some ++ List.replicate (N - (ts.length + 1)) none) h with
  | .nx env h' => match env with
    | some (.raw u) :: _ => if u = v then match m env h' with
      | .ok us h2 => if us.length = (FL c).length then .ok (.ins c us) h2 else .bad
      | _ => .bad else .bad
    | _ => .bad
  | .ex x _ h' => .ex x h'
  | _ => .bad
theorem init_okX {qual : Str} {st s1 : Stmt} {rest : List Stmt} {f : Addr} {fd : FuncData} {N ps : List Str} {c k n : Nat} {mp : SM} {m : EL} {F0 : FM} (F : Fun K "__init__" qual st f fd) (S : FnScope N ps (defScope st)) (hn : n + 1 = ps.length) (hst : defBody st = s1 :: rest)
    (hF : ∀ v ts h, ts.length = n → F_stX c N.length mp m v ts h = F0 ts h)
    (hb : ∀ (cdv : Value) (A : Around) (outer : List PySem.Env) (s : Shared) (H : Hp) (E : XK), Room k (A.deeper (PyProof.Rows.envOfC qual (defScope st) s.heap.objs.size f cdv)) →
      PSm G (cxOf (L2.CX P w) P w K mg base N qual (defScope st) f cdv A outer s H E) (fun c d _ H => E c d H) s1 mp ∧ PSs (cxOf (L2.CX P w) P w K mg base N qual (defScope st) f cdv A outer s H E) rest (tSt G K W0 c 0 m)) :
    FnOk P w K mg base (L2.CX P w) (k + 1) f fd ps (spM G K c n F0 true) := by
  refine F.okX S (fun vs H Q E q => by rw [spM_len q, hn]) (fun cdv A outer s H vs Q E hr q => ?_)
  obtain ⟨x, dx, ws, H0, μ, ts, h, rfl, rfl, hx0, hdx0, ne, r, l, hl, w⟩ := q
  obtain ⟨b1, b2⟩ := hb cdv A outer s (upd (upd H0 dx (.own x)) x (.ins (G.cl c) dx [])) E hr
  rw [hst]
  refine ⟨_, pss_cons b1 b2, ?_⟩
  have nx : upd H0 dx (.own x) x = none := by rw [upd_ne (Ne.symm ne)]; exact hx0
  have ee : Ext μ H0 μ (upd (upd H0 dx (.own x)) x (.ins (G.cl c) dx [])) := (ext_new hdx0).trans (ext_new nx)
  refine ⟨μ, _, h, (r.new hdx0).new nx, repE_self (l.mono ee) (some (.raw (.ref x))) (fun u e => by cases e; exact .raw _), ?_⟩
  rw [← hF (.ref x) ts h hl] at w
  unfold F_stX at w
  cases q1 : mp (some (.raw (.ref x)) :: ts.map some ++ List.replicate (N.length - (ts.length + 1)) none) h with
  | nx env h1 =>
    rw [q1] at w
    dsimp only at w
    refine fun μ1 σ1 H1 e1 r1 re1 => ?_
    split at w
    · next u rest' =>
     split at w
     · next hu0 =>
      subst hu0
      obtain ⟨v0, s0, iv0⟩ := re1.at_ 0 _ rfl
      cases iv0
      cases q2 : m (some (.raw (V.ref x)) :: rest') h1 with
      | ok us h2 =>
        rw [q2] at w
        dsimp only at w
        split at w
        · next hu =>
          exact ⟨μ, H0, μ1, _, h1, x, dx, [], [], s0, e1.fr _ _ upd_same (r.notin hx0), rfl, hx0, e1.out upd_same (r.notin hx0), e1.outz upd_same (r.notz hx0), ee.trans e1, r1, re1, .nil, by rw [q2]; exact ⟨hu, fun μ' H' σ' a b z => w μ' H' a b z⟩⟩
        · exact w.elim
      | bad => rw [q2] at w; exact w.elim
      | ex xx h2 => rw [q2] at w; exact w.elim
     · exact w.elim
    · exact w.elim
  | ex xx env h1 =>
    rw [q1] at w
    exact fun μ' σ' H' c d e' r' re i => (w μ' H' c d (ee.trans e') r' i).2
  | rt t h1 => rw [q1] at w; exact w.elim
  | bk env h1 => rw [q1] at w; exact w.elim
  | ct env h1 => rw [q1] at w; exact w.elim
  | bad => rw [q1] at w; exact w.elim
end
end M
namespace M
open PySem PySem.Spec PyProof.Rows L2
/-! ### zip of three tuples of one length -/
def Itz3 (K : PySem.W.Frag) (a b c : Addr) : It :=
  ⟨fun i H => ∃ (xs ys zs : List V) (x y z : V), SqT K H a xs ∧ SqT K H b ys ∧ SqT K H c zs ∧ xs[i]? = some x ∧ ys[i]? = some y ∧ zs[i]? = some z,
    fun i H v H' => ∃ T x y z, v = .ref T ∧ H T = none ∧ H' = upd H T (.tup [x, y, z]) ∧ (∀ xs, SqT K H a xs → xs[i]? = some x) ∧ (∀ ys, SqT K H b ys → ys[i]? = some y) ∧ ∀ zs, SqT K H c zs → zs[i]? = some z,
    fun i H => ∃ xs ys zs : List V, SqT K H a xs ∧ SqT K H b ys ∧ SqT K H c zs ∧ xs.length = i ∧ ys.length = i ∧ zs.length = i⟩
theorem turn_zip3 {P : Program} {w : World} {K : PySem.W.Frag} {elts : List Expr} {kk : Nat} {tpos : Pos} {a b c z TI TO i1 i2 i3 : Addr} (S : ZipSep3 z TI TO i1 i2 i3 [i1, a] [i2, b] [i3, c]) (n1 : a ≠ i1) (n2 : b ≠ i2) (n3 : c ≠ i3) :
    Turn P w K (.Tuple elts kk tpos) (Itz3 K a b c) [z, TI, TO, i1, i2, i3] z (fun i h => IsZip h z TI TO .none ∧ IsTupOf3 h TI (.ref i1) (.ref i2) (.ref i3) ∧ (∃ x y z, IsTupOf3 h TO x y z) ∧ h.IsTupleIter i1 a i ∧ h.IsTupleIter i2 b i ∧ h.IsTupleIter i3 c i) where
  mem := by simp
  obj := fun i h st c hc => by
    obtain ⟨hz, hTI, ⟨x, y, z', hTO⟩, ⟨o1, e1, _, d1⟩, ⟨o2, e2, _, d2⟩, ⟨o3, e3, _, d3⟩⟩ := st
    have e' : c = z ∨ c = TI ∨ c = TO ∨ c = i1 ∨ c = i2 ∨ c = i3 := by simpa using hc
    rcases e' with q | q | q | q | q | q
    · rw [q]; exact ⟨_, hz, fun v q => nomatch q⟩
    · rw [q]; exact ⟨_, hTI, fun v q => nomatch q⟩
    · rw [q]; exact ⟨_, hTO, fun v q => nomatch q⟩
    · rw [q]; exact ⟨o1, e1, fun v q => by rw [d1] at q; cases q⟩
    · rw [q]; exact ⟨o2, e2, fun v q => by rw [d2] at q; cases q⟩
    · rw [q]; exact ⟨o3, e3, fun v q => by rw [d3] at q; cases q⟩
  keep := fun i h h' st k => by
    obtain ⟨hz, hTI, ⟨x, y, z', hTO⟩, h1, h2, h3⟩ := st
    exact ⟨k z (by simp) _ hz, k TI (by simp) _ hTI, ⟨x, y, z', k TO (by simp) _ hTO⟩, h1.at fun o q => k i1 (by simp) o q, h2.at fun o q => k i2 (by simp) o q, h3.at fun o q => k i3 (by simp) o q⟩
  item := by
    intro X hP hw hK hc i pins s σ H E I hf st hg
    subst hP hw hK
    obtain ⟨hz, hTI, hTO, h1, h2, h3⟩ := st
    obtain ⟨xs, ys, zs, x, y, u, hqx, hqy, hqz, hx, hy, hu⟩ := hg
    obtain ⟨its1, rv1, p1, _⟩ := I.tuple hqx
    obtain ⟨its2, rv2, p2, _⟩ := I.tuple hqy
    obtain ⟨its3, rv3, p3, _⟩ := I.tuple hqz
    obtain ⟨v1, hv1, r1⟩ := rv1.get hx
    obtain ⟨v2, hv2, r2⟩ := rv2.get hy
    obtain ⟨v3, hv3, r3⟩ := rv3.get hu
    have hh : X.A.in1.handled = none := I.ok.hd hc
    have W := WalksT.zipD3 (prog := X.prog) (w := X.w) (A := X.A) S (Draws.tuple hh i1 a n1 its1.toArray) (Draws.tuple hh i2 b n2 its2.toArray) (Draws.tuple hh i3 c n3 its3.toArray)
    have lt1 : i < its1.length := (List.getElem?_eq_some_iff.mp hv1).1
    have lt2 : i < its2.length := (List.getElem?_eq_some_iff.mp hv2).1
    have lt3 : i < its3.length := (List.getElem?_eq_some_iff.mp hv3).1
    refine W.item i s _ E (by simp only [List.size_toArray]; omega) ⟨hz, hTI, hTO, ⟨h1, p1⟩, ⟨h2, p2⟩, ⟨h3, p3⟩⟩ fun T vals h' tk hP hT hTup hM hk => ⟨_, rfl, ?_⟩
    refine W.go elts kk tpos i T { s with heap := h', toks := tk } _ E hM fun h'' hSt hk2 => ?_
    obtain ⟨w1, w2, w3, q1, q2, q3, ev⟩ := hP
    have e1 : w1 = v1 := by
      rw [List.getElem?_toArray, hv1] at q1
      exact (Option.some.inj q1).symm
    have e2 : w2 = v2 := by
      rw [List.getElem?_toArray, hv2] at q2
      exact (Option.some.inj q2).symm
    have e3 : w3 = v3 := by
      rw [List.getElem?_toArray, hv3] at q3
      exact (Option.some.inj q3).symm
    subst e1 e2 e3 ev
    have tn := W.apart i T h' hM
    have hTup2 : h''.IsTuple T #[w1, w2, w3] := hTup.at fun o e => hk2 T o tn e
    have new : ObjOk X.prog X.w (upd H T (.tup [x, y, u])) h'' T (.tup [x, y, u]) :=
      ⟨by show 3 ≤ sizeLine; decide, [w1, w2, w3], .cons r1 (.cons r2 (.cons r3 .nil)), hTup2⟩
    have sub : ∀ c, c ∉ [z, TI, TO, i1, i2, i3] → c ∉ [z, TO, i1, i2, i3] := fun c h m => h (by
      have e' : c = z ∨ c = TO ∨ c = i1 ∨ c = i2 ∨ c = i3 := by simpa using m
      rcases e' with q | q | q | q | q <;> simp [q])
    have I1 : Inv X pins σ (upd H T (.tup [x, y, u])) { s with heap := h'', toks := tk } :=
      I.turnedNew (t' := tk) (ch := [z, TI, TO, i1, i2, i3]) (fun c o hb q => hk2 c o (sub c hb) (hk c o (sub c hb) q)) hf hT new
    obtain ⟨g1, g2, g3, g4, g5, g6⟩ := hSt
    refine ⟨.ref T, _, I1, rfl, ⟨T, x, y, u, rfl, I.hok.fresh hT, rfl, fun l hl => by rw [I.tuple_inj hl hqx]; exact hx, fun l hl => by rw [I.tuple_inj hl hqy]; exact hy, fun l hl => by rw [I.tuple_inj hl hqz]; exact hu⟩, ⟨g1, g2, g3, g4.1, g5.1, g6.1⟩, fun c hcm => ?_⟩
    have hlt : c < s.heap.objs.size := by
      obtain ⟨_, _, _, hTO'⟩ := hTO
      have e' : c = z ∨ c = TI ∨ c = TO ∨ c = i1 ∨ c = i2 ∨ c = i3 := by simpa using hcm
      rcases e' with q | q | q | q | q | q
      · rw [q]; exact Heap.lt_size hz
      · rw [q]; exact Heap.lt_size hTI
      · rw [q]; exact Heap.lt_size hTO'
      · rw [q]; obtain ⟨_, e1, _⟩ := h1; exact Heap.lt_size e1
      · rw [q]; obtain ⟨_, e2, _⟩ := h2; exact Heap.lt_size e2
      · rw [q]; obtain ⟨_, e3, _⟩ := h3; exact Heap.lt_size e3
    rw [upd_ne (Nat.ne_of_lt (Nat.lt_of_lt_of_le hlt hT))]
    exact (hf c hcm).1
  done := by
    intro X hP hw hK hc i pins s σ H E I hf st hg
    subst hP hw hK
    obtain ⟨hz, hTI, hTO, h1, h2, h3⟩ := st
    obtain ⟨xs, ys, zs, hqx, hqy, hqz, l1, l2, l3⟩ := hg
    obtain ⟨its1, rv1, p1, _⟩ := I.tuple hqx
    obtain ⟨its2, rv2, p2, _⟩ := I.tuple hqy
    obtain ⟨its3, rv3, p3, _⟩ := I.tuple hqz
    have m1 := rv1.length
    have m2 := rv2.length
    have m3 := rv3.length
    have hh : X.A.in1.handled = none := I.ok.hd hc
    have W := WalksT.zipD3 (prog := X.prog) (w := X.w) (A := X.A) S (Draws.tuple hh i1 a n1 its1.toArray) (Draws.tuple hh i2 b n2 its2.toArray) (Draws.tuple hh i3 c n3 its3.toArray)
    have en : min (min its1.toArray.size its2.toArray.size) its3.toArray.size = i := by
      simp only [List.size_toArray]
      omega
    rw [en] at W
    refine W.done s _ E ⟨hz, hTI, hTO, ⟨h1, p1⟩, ⟨h2, p2⟩, ⟨h3, p3⟩⟩ fun h' tk hk => ⟨rfl, I.turnedL (t' := tk) (ch := [z, TI, TO, i1, i2, i3]) (fun c o hb q => hk c o (fun m => hb (by
      have e' : c = z ∨ c = TO ∨ c = i1 ∨ c = i2 ∨ c = i3 := by simpa using m
      rcases e' with q | q | q | q | q <;> simp [q])) q) hf⟩
  self := fun A i s Q E st h => wpAny_pyIter_zip st.1 h
def iZip3 (K : PySem.W.Frag) (ta : TA) : TI := fun σ H R => ta σ H fun vs H1 => ∃ a b c xs ys zs, vs = [.ref a, .ref b, .ref c] ∧ SqT K H1 a xs ∧ SqT K H1 b ys ∧ SqT K H1 c zs ∧ R (Itz3 K a b c) H1
theorem pi_zip3 {X : Cx} {e e2 e3 : Expr} {ta : TA} {p pos tpos : Pos} {elts : List Expr} {kk : Nat} (hg : Gl X "zip") (hm : X.mg "zip" = none) (ha : PA X [e, e2, e3] ta)
    (hs : starEach [e, e2, e3] X.env = (false, eval e X.env) :: starEach [e2, e3] X.env := by rfl) (hpl : (backTo pos (starEach [e2, e3] X.env)).any (·.1) = false := by rfl) :
    PI X (.Tuple elts kk tpos) (.Call (.Name "zip" p) [e, e2, e3] [] pos) (iZip3 X.K ta) := by
  refine ⟨fun pins s σ H R I h => ?_⟩
  refine Call_ (ld_blt I hg hm PyProof.Rows.boot_zip (PyProof.Rows.callWith_type1 (thn (ha.run pos pins s σ H _ I h) fun us s1 ⟨vs, H1, I1, r1, q1⟩ => ?_) hs hpl))
  obtain ⟨a, b, c, xs, ys, zs, ex, hqx, hqy, hqz, q⟩ := q1
  subst ex
  cases r1 with
  | cons r rr =>
    cases rr with
    | cons r' rr =>
      cases rr with
      | cons r'' rr =>
        cases rr
        cases r
        cases r'
        cases r''
        obtain ⟨its1, rv1, p1, _⟩ := I1.tuple hqx
        obtain ⟨its2, rv2, p2, _⟩ := I1.tuple hqy
        obtain ⟨its3, rv3, p3, _⟩ := I1.tuple hqz
        obtain ⟨o1, ho1, _⟩ := id p1
        obtain ⟨o2, ho2, _⟩ := id p2
        obtain ⟨o3, ho3, _⟩ := id p3
        have la := Heap.lt_size ho1
        have lb := Heap.lt_size ho2
        have lc := Heap.lt_size ho3
        refine zip_begins3 (begins_tuple a its1.toArray) (begins_tuple b its2.toArray) (begins_tuple c its3.toArray) p1 p2 p3 fun h' hz hTI hTO g1 g2 g3 hsz hk => wpAny_pyIter_zip hz ?_
        have I2 : Inv X pins σ H1 { s1 with heap := h' } := I1.kept (t' := s1.toks) hk
        refine ⟨s1.heap.objs.size + 5, [s1.heap.objs.size + 5, s1.heap.objs.size + 3, s1.heap.objs.size + 4, s1.heap.objs.size, s1.heap.objs.size + 1, s1.heap.objs.size + 2], _, _, H1, rfl, I2,
          turn_zip3 (zip_sep3 (fp1 := [a]) (fp2 := [b]) (fp3 := [c]) (fun x hx => by rw [List.mem_singleton.mp hx]; exact la) (fun x hx => by rw [List.mem_singleton.mp hx]; exact lb) (fun x hx => by rw [List.mem_singleton.mp hx]; exact lc)) (Nat.ne_of_lt la) (Nat.ne_of_lt (Nat.lt_succ_of_lt lb)) (Nat.ne_of_lt (Nat.lt_succ_of_lt (Nat.lt_succ_of_lt lc))),
          ⟨hz, hTI, ⟨_, _, _, hTO⟩, ⟨_, g1, rfl, rfl⟩, ⟨_, g2, rfl, rfl⟩, ⟨_, g3, rfl, rfl⟩⟩, fun d hd => ?_, q⟩
        have hle : s1.heap.objs.size ≤ d := by
          have e' : d = s1.heap.objs.size + 5 ∨ d = s1.heap.objs.size + 3 ∨ d = s1.heap.objs.size + 4 ∨ d = s1.heap.objs.size ∨ d = s1.heap.objs.size + 1 ∨ d = s1.heap.objs.size + 2 := by simpa using hd
          rcases e' with z | z | z | z | z | z
          · rw [z]; exact Nat.le_add_right _ _
          · rw [z]; exact Nat.le_add_right _ _
          · rw [z]; exact Nat.le_add_right _ _
          · rw [z]; exact Nat.le_refl _
          · rw [z]; exact Nat.le_add_right _ _
          · rw [z]; exact Nat.le_add_right _ _
        exact I1.fpOk hle (I1.hok.fresh hle)
section
variable {G : CT} {X : Cx} {W : WX} {K : PySem.W.Frag} {μ : Mu} {H : Hp} {h : AH}
def zip3T : List T → List T → List T → List T
  | x :: xs, y :: ys, z :: zs => .tup [x, y, z] :: zip3T xs ys zs
  | _, _, _ => []
theorem zip3T_get : ∀ {xs ys zs : List T} {i : Nat} {x y z : T}, xs[i]? = some x → ys[i]? = some y → zs[i]? = some z → (zip3T xs ys zs)[i]? = some (.tup [x, y, z])
  | x :: xs, y :: ys, z :: zs, 0, _, _, _, a, b, c => by cases a; cases b; cases c; rfl
  | x :: xs, y :: ys, z :: zs, i + 1, _, _, _, a, b, c => by
    show (zip3T xs ys zs)[i]? = _
    exact zip3T_get (by simpa using a) (by simpa using b) (by simpa using c)
  | [], _, _, _, _, _, _, a, _, _ => by cases a
  | _ :: _, [], _, _, _, _, _, _, b, _ => by cases b
  | _ :: _, _ :: _, [], _, _, _, _, _, _, c => by cases c
theorem zip3T_len : ∀ {xs ys zs : List T}, xs.length = ys.length → ys.length = zs.length → (zip3T xs ys zs).length = xs.length
  | [], [], [], _, _ => rfl
  | x :: xs, y :: ys, z :: zs, a, b => by
    show (zip3T xs ys zs).length + 1 = xs.length + 1
    rw [zip3T_len (by simpa using a) (by simpa using b)]
  | [], _ :: _, _, a, _ => by cases a
  | _ :: _, [], _, a, _ => by cases a
  | _, [], _ :: _, _, b => by cases b
  | _, _ :: _, [], _, b => by cases b
def Src.upto (ts : List T) : Src := ⟨fun i _ => if i ≤ ts.length then some ts[i]? else none, ts.length + 1⟩
def sZip3 (m : EL) : Env → AH → Out Src := fun env h => (m env h).bind fun ts h1 => match ts with
  | [.tup xs, .tup ys, .tup zs] => if xs.length = ys.length ∧ ys.length = zs.length then .ok (.upto (zip3T xs ys zs)) h1 else .bad
  | _ => .bad
theorem pim_zip3 {m : EL} {e e2 e3 : Expr} {p pos tpos : Pos} {elts : List Expr} {kk : Nat} (hm : X.mg "zip" = none) (ha : PAm G X W [e, e2, e3] m) (hg : Gl X "zip" := by rfl)
    (hs : starEach [e, e2, e3] X.env = (false, eval e X.env) :: starEach [e2, e3] X.env := by rfl) (hpl : (backTo pos (starEach [e2, e3] X.env)).any (·.1) = false := by rfl) :
    PIm G X W (.Tuple elts kk tpos) (.Call (.Name "zip" p) [e, e2, e3] [] pos) (sZip3 m) := PI.imp (pi_zip3 hg hm ha hs hpl) fun σ H R q => by
  obtain ⟨μ, env, h, r, re, w⟩ := q
  refine ⟨μ, env, h, r, re, (Want.bind w).mp fun ts h1 μ1 H1 _ e1 r1 ⟨_, _, w1⟩ vs ivs => ?_⟩
  match ts, w1, ivs with
  | [.tup xs, .tup ys, .tup zs], w1, .cons (.tup (a := a) (vs := as) s1 l1) (.cons (.tup (a := b) (vs := bs) s2 l2) (.cons (.tup (a := c) (vs := cs) s3 l3) .nil)) =>
    dsimp only at w1
    split at w1
    · next hl =>
      refine ⟨a, b, c, as, bs, cs, rfl, s1, s2, s3, Want.now (R := fun s h1 μ1 H1 => ∀ J, SrcOk G X.K s μ1 H1 J → R J H1) r1 w1 _ fun i h' μ' H' e r' => ?_⟩
      have zl : (zip3T xs ys zs).length = xs.length := zip3T_len hl.1 hl.2
      have k1 := l1.length
      have k2 := l2.length
      have k3 := l3.length
      unfold Src.upto
      dsimp only
      by_cases hi : i ≤ (zip3T xs ys zs).length
      · rw [if_pos hi]
        rw [zl] at hi
        by_cases hl2 : i < xs.length
        · have g1 : xs[i]? = some xs[i] := List.getElem?_eq_getElem hl2
          have g2 : ys[i]? = some (ys[i]'(by omega)) := List.getElem?_eq_getElem (by omega)
          have g3 : zs[i]? = some (zs[i]'(by omega)) := List.getElem?_eq_getElem (by omega)
          rw [zip3T_get g1 g2 g3]
          obtain ⟨v1, hv1, iv1⟩ := l1.get g1
          obtain ⟨v2, hv2, iv2⟩ := l2.get g2
          obtain ⟨v3, hv3, iv3⟩ := l3.get g3
          refine ⟨⟨as, bs, cs, v1, v2, v3, e.sqt s1, e.sqt s2, e.sqt s3, hv1, hv2, hv3⟩, ?_⟩
          rintro x H'' ⟨T', x1, x2, x3, rfl, hT, rfl, y1, y2, y3⟩
          have z1 := y1 as (e.sqt s1)
          have z2 := y2 bs (e.sqt s2)
          have z3 := y3 cs (e.sqt s3)
          rw [hv1] at z1
          rw [hv2] at z2
          rw [hv3] at z3
          cases z1
          cases z2
          cases z3
          have en : Ext μ' H' μ' (upd H' T' (.tup [v1, v2, v3])) := ext_new hT
          exact ⟨en, r'.new hT, .tup (.inl (.inl upd_same)) (.cons ((iv1.monoI e).mono en) (.cons ((iv2.monoI e).mono en) (.cons ((iv3.monoI e).mono en) .nil)))⟩
        · rw [List.getElem?_eq_none (by omega)]
          exact ⟨as, bs, cs, e.sqt s1, e.sqt s2, e.sqt s3, by omega, by omega, by omega⟩
      · rw [if_neg hi]
        trivial
    · exact w1.elim
end
end M
namespace M
open PySem PySem.Spec PyProof.Rows L2
section
variable {G : CT} {X : Cx} {W : WX} {K : PySem.W.Frag} {μ : Mu} {H : Hp} {h : AH}
/-! ### [e for a in s for b in t] -/
def comp2S (s : Src) (g : T → Env → Option Env) (c : EB) (s1 : Env → AH → Out Src) (g1 : T → Env → Option Env) (c1 : EB) (m : EM) (vs1 : List Nat) (env : Env) : Nat → Nat → List T → AH → Out (List T)
  | 0, _, _, _ => .bad
  | f + 1, i, acc, h => match s.nx i h with
    | none => .bad
    | some none => .ok acc h
    | some (some t) => match g t env with
      | none => .bad
      | some e1 => (c e1 h).bind fun b h1 => if b = true then (s1 e1 h1).bind fun src1 h2 => (compS src1 g1 c1 m (wipeE e1 vs1) src1.fuel 0 acc h2).bind fun acc' h3 => comp2S s g c s1 g1 c1 m vs1 env f (i + 1) acc' h3
        else comp2S s g c s1 g1 c1 m vs1 env f (i + 1) acc h1
def mComp2 (vs vs1 : List Nat) (s : Env → AH → Out Src) (g : T → Env → Option Env) (c : EB) (s1 : Env → AH → Out Src) (g1 : T → Env → Option Env) (c1 : EB) (m : EM) : EM := fun env h => (s env h).bind fun src h1 => (comp2S src g c s1 g1 c1 m vs1 (wipeE env vs) src.fuel 0 [] h1).bind fun ts h2 => .ok (.lv ts) h2
theorem Want.go {α β : Type} {Wh : WH} {o : Out α} {k : α → AH → Out β} {S : β → AH → Mu → Hp → Prop} {a : α} {h1 : AH} (e : o = .ok a h1) (w : Want G K Wh (o.bind k) μ H S) : Want G K Wh (k a h1) μ H S := by
  rw [e] at w
  exact w
theorem lc2_ok {vs vs1 : List Nat} {s s1 : Env → AH → Out Src} {g g1 : T → Env → Option Env} {c c1 : EB} {m : EM} : ∀ σ H Q, teOf G X.K W0 (mComp2 vs vs1 s g c s1 g1 c1 m) σ H Q →
    tLc2 (tiOf G X.K W0 s) (tgOf G X.K vs g) (ttOf G X.K W0 c) (tiOf G X.K W0 s1) (tgOf G X.K vs1 g1) (ttOf G X.K W0 c1) (teOf G X.K W0 m) vs vs1 σ H Q := fun σ H Q q => by
  obtain ⟨μ, env, h, r, re, w⟩ := q
  refine ⟨μ, env, h, r, re, (Want.bind w).mp fun src h1 μ1 H1 _ e1 r1 ⟨_, _, w1⟩ J ok D hD => ?_⟩
  have re1 := (re.mono e1).wipes vs
  refine ⟨fun i f H => ∃ μ' h' acc, CSt G X.K μ1 H1 D μ' H h' acc ∧ Want G X.K (fun _ _ _ => False) ((comp2S src g c s1 g1 c1 m vs1 (wipeE env vs) f i acc h').bind fun ts h2 => Out.ok (T.lv ts) h2) μ1 H1 (wT G X.K Q),
    ⟨src.fuel, μ1, h1, [], ⟨ext_new hD, r1.new hD, r1.notin hD, r1.notz hD, [], upd_same, .nil⟩, w1⟩, ?_⟩
  rintro i f H' ⟨μ', h', acc, cs, w'⟩
  cases f with
  | zero => exact w'.elim
  | succ f =>
    have z := ok i h' μ' H' cs.ext.toI cs.rep
    unfold comp2S at w'
    split at w'
    · exact w'.elim
    · next hn =>
      rw [hn] at z
      refine .inl ⟨z, ?_⟩
      obtain ⟨as, q1, l⟩ := cs.at_
      exact w' (μ'.put D) H' (cs.ext.joinZ hD) (cs.rep.joinZ cs.out q1) _ (.lv mem_put q1 (l.monoI extI_joinZ))
    · next t hn =>
      rw [hn] at z
      refine .inr ⟨z.1, fun H => ∃ μ' h' acc, CSt G X.K μ1 H1 D μ' H h' acc ∧ Want G X.K (fun _ _ _ => False) ((comp2S src g c s1 g1 c1 m vs1 (wipeE env vs) f (i + 1) acc h').bind fun ts h2 => Out.ok (T.lv ts) h2) μ1 H1 (wT G X.K Q), fun H2 q2 => ⟨f, Nat.lt_succ_self _, q2⟩, ?_⟩
      intro x H'' hy
      obtain ⟨e2, r2, ix⟩ := z.2 x H'' hy
      have c2 := cs.up e2 r2
      cases hg : g t (wipeE env vs) with
      | none => rw [hg] at w'; exact w'.elim
      | some env1 =>
        rw [hg] at w'
        dsimp only at w'
        rw [bind_assoc] at w'
        refine ⟨μ', wipeE env vs, h', t, env1, r2, re1.mono c2.ext, ix, hg, fun σ2 re2 w2 => ⟨w2.trans wipe_wipe, ?_⟩⟩
        refine ⟨μ', env1, h', r2, re2, (Want.up c2.ext w').bind.mp fun b h2 μ3 H3 e3 x3 r3 _ => ?_⟩
        have w3 := Want.go e3 w'
        have c3 := c2.up x3 r3
        cases b with
        | false => exact ⟨μ3, h2, acc, c3, w3⟩
        | true =>
          rw [if_pos rfl] at w3
          rw [bind_assoc] at w3
          refine ⟨μ3, env1, h2, r3, re2.mono x3, (Want.up c3.ext w3).bind.mp fun src1 h3 μ4 H4 e4 x4 r4 _ J1 ok1 => ?_⟩
          have w4 := Want.go e4 w3
          have c4 := c3.up x4 r4
          have re4 := ((re2.mono x3).mono x4).wipes vs1
          refine ⟨fun j k H => ∃ μ' h' acc, CSt G X.K μ1 H1 D μ' H h' acc ∧ ExtI μ4 H4 μ' H ∧ Want G X.K (fun _ _ _ => False) (((compS src1 g1 c1 m (wipeE env1 vs1) k j acc h').bind fun acc' h3 => comp2S src g c s1 g1 c1 m vs1 (wipeE env vs) f (i + 1) acc' h3).bind fun ts h2 => Out.ok (T.lv ts) h2) μ1 H1 (wT G X.K Q),
            ⟨src1.fuel, μ4, h3, acc, c4, Ext.refl.toI, w4⟩, ?_⟩
          rintro j k H5 ⟨μ5, h5, acc5, c5, x5, w5⟩
          cases k with
          | zero => exact w5.elim
          | succ k =>
            have z1 := ok1 j h5 μ5 H5 x5 c5.rep
            rw [bind_assoc] at w5
            unfold compS at w5
            split at w5
            · exact w5.elim
            · next hn1 =>
              rw [hn1] at z1
              exact .inl ⟨z1, μ5, h5, acc5, c5, w5⟩
            · next t1 hn1 =>
              rw [hn1] at z1
              refine .inr ⟨z1.1, fun H => ∃ μ' h' acc, CSt G X.K μ1 H1 D μ' H h' acc ∧ ExtI μ4 H4 μ' H ∧ Want G X.K (fun _ _ _ => False) (((compS src1 g1 c1 m (wipeE env1 vs1) k (j + 1) acc h').bind fun acc' h3 => comp2S src g c s1 g1 c1 m vs1 (wipeE env vs) f (i + 1) acc' h3).bind fun ts h2 => Out.ok (T.lv ts) h2) μ1 H1 (wT G X.K Q), fun H2 q2 => ⟨k, Nat.lt_succ_self _, q2⟩, ?_⟩
              intro x1 H6 hy1
              obtain ⟨e6, r6, ix1⟩ := z1.2 x1 H6 hy1
              have c6 := c5.up e6 r6
              cases hg1 : g1 t1 (wipeE env1 vs1) with
              | none => rw [hg1] at w5; exact w5.elim
              | some env2 =>
                rw [hg1] at w5
                dsimp only at w5
                rw [bind_assoc] at w5
                refine ⟨μ5, wipeE env1 vs1, h5, t1, env2, r6, re4.monoI (x5.trans e6.toI), ix1, hg1, fun σ3 re6 w6 => ⟨w6.trans wipe_wipe, ?_⟩⟩
                refine ⟨μ5, env2, h5, r6, re6, (Want.up c6.ext w5).bind.mp fun b1 h7 μ7 H7 e7 x7 r7 _ => ?_⟩
                have w7 := Want.go e7 w5
                have c7 := c6.up x7 r7
                cases b1 with
                | false =>
                  refine ⟨μ7, h7, acc5, c7, (x5.trans e6.toI).trans x7.toI, ?_⟩
                  rw [bind_assoc]
                  exact w7
                | true =>
                  rw [if_pos rfl] at w7
                  rw [bind_assoc] at w7
                  refine ⟨μ7, env2, h7, r7, re6.mono x7, (Want.up c7.ext w7).bind.mp fun u h8 μ8 H8 e8 x8 r8 _ y iy => ?_⟩
                  have w8 := Want.go e8 w7
                  have c8 := c7.up x8 r8
                  obtain ⟨as, q1, l⟩ := c8.at_
                  by_cases hl : acc5.length < sizeLine
                  · rw [if_pos hl] at w8
                    refine ⟨as, q1, by rw [← l.length]; exact hl, μ8, h8, acc5 ++ [u], ⟨c8.ext.side hD, r8.side c8.out c8.outz q1 rfl, c8.out, c8.outz, _, upd_same, ?_⟩, ?_, ?_⟩
                    · exact (l.append (.one iy)).monoI (extI_side c8.outz q1 rfl)
                    · exact (((x5.trans e6.toI).trans x7.toI).trans x8.toI).trans (extI_side c8.outz q1 rfl)
                    · rw [bind_assoc]
                      exact w8
                  · rw [if_neg hl] at w8
                    exact w8.elim
theorem pm_lc2 {elt tg iter tg1 iter1 : Expr} {ifs ifs1 : List Expr} {scope : Scope} {vs vs1 : List Nat} {pos : Pos} {s s1 : Env → AH → Out Src} {g g1 : T → Env → Option Env} {c c1 : EB} {m : EM} (own : List (Str × Nat)) (hc : X.calm = true) (hN : X.N.Nodup) (hi : PIm G X W0 tg iter s) (ok : BlkOk X.N X.env.scope scope own) (hv : own.map (·.2) = vs) (hv1 : ∀ i ∈ vs1, i ∈ vs)
    (hg : ∀ (s : Shared) (H : Hp) (C : Addr) (cl : List (Str × Addr)) (fp : List Addr), PGm G (X.blk s H scope (compEnvC scope cl C X.env) fp) vs tg g)
    (ht : ∀ (s : Shared) (H : Hp) (C : Addr) (cl : List (Str × Addr)) (fp : List Addr), ptsOf G (X.blk s H scope (compEnvC scope cl C X.env) fp) W0 ifs c)
    (hi1 : ∀ (s : Shared) (H : Hp) (C : Addr) (cl : List (Str × Addr)) (fp : List Addr), PIm G (X.blk s H scope (compEnvC scope cl C X.env) fp) W0 tg1 iter1 s1)
    (hg1 : ∀ (s : Shared) (H : Hp) (C : Addr) (cl : List (Str × Addr)) (fp : List Addr), PGm G (X.blk s H scope (compEnvC scope cl C X.env) fp) vs1 tg1 g1)
    (ht1 : ∀ (s : Shared) (H : Hp) (C : Addr) (cl : List (Str × Addr)) (fp : List Addr), ptsOf G (X.blk s H scope (compEnvC scope cl C X.env) fp) W0 ifs1 c1)
    (he : ∀ (s : Shared) (H : Hp) (C : Addr) (cl : List (Str × Addr)) (fp : List Addr), PEm G (X.blk s H scope (compEnvC scope cl C X.env) fp) W0 elt m) (hs : ∀ x, foldedSetIterable iter X.env x = pure x := by intro _; rfl) (hs1 : ∀ env x, foldedSetIterable iter1 env x = pure x := by intro _ _; rfl) :
    PEm G X W0 (.ListComp elt [⟨tg, iter, ifs, 0⟩, ⟨tg1, iter1, ifs1, 0⟩] scope pos) (mComp2 vs vs1 s g c s1 g1 c1 m) := by
  subst hv
  exact PE.imp (pe_lc2 (wi := tiOf G X.K W0 s) (g := tgOf G X.K _ g) (tt := ttOf G X.K W0 c) (wi1 := tiOf G X.K W0 s1) (g1 := tgOf G X.K _ g1) (tt1 := ttOf G X.K W0 c1) (te := teOf G X.K W0 m) hc hN hi ok hv1 hg ht hi1 hg1 ht1 he hs hs1) lc2_ok
theorem psm_setLc2 (i : Nat) {y : Str} {py : Pos} {elt tg iter tg1 iter1 : Expr} {ifs ifs1 : List Expr} {scope : Scope} {vs vs1 : List Nat} {pos spos : Pos} {s s1 : Env → AH → Out Src} {g g1 : T → Env → Option Env} {c c1 : EB} {m : EM} (own : List (Str × Nat)) (hc : X.calm = true) (hN : X.N.Nodup) (hi : PIm G X W0 tg iter s) (ok : BlkOk X.N X.env.scope scope own) (hv : own.map (·.2) = vs) (hv1 : ∀ i ∈ vs1, i ∈ vs)
    (hg : ∀ (s : Shared) (H : Hp) (C : Addr) (cl : List (Str × Addr)) (fp : List Addr), PGm G (X.blk s H scope (compEnvC scope cl C X.env) fp) vs tg g)
    (ht : ∀ (s : Shared) (H : Hp) (C : Addr) (cl : List (Str × Addr)) (fp : List Addr), ptsOf G (X.blk s H scope (compEnvC scope cl C X.env) fp) W0 ifs c)
    (hi1 : ∀ (s : Shared) (H : Hp) (C : Addr) (cl : List (Str × Addr)) (fp : List Addr), PIm G (X.blk s H scope (compEnvC scope cl C X.env) fp) W0 tg1 iter1 s1)
    (hg1 : ∀ (s : Shared) (H : Hp) (C : Addr) (cl : List (Str × Addr)) (fp : List Addr), PGm G (X.blk s H scope (compEnvC scope cl C X.env) fp) vs1 tg1 g1)
    (ht1 : ∀ (s : Shared) (H : Hp) (C : Addr) (cl : List (Str × Addr)) (fp : List Addr), ptsOf G (X.blk s H scope (compEnvC scope cl C X.env) fp) W0 ifs1 c1)
    (he : ∀ (s : Shared) (H : Hp) (C : Addr) (cl : List (Str × Addr)) (fp : List Addr), PEm G (X.blk s H scope (compEnvC scope cl C X.env) fp) W0 elt m) (hy : X.N[i]? = some y := by rfl) (hyl : X.env.scope.names.lookup y = some .local := by rfl)
    (hsw : swapsWith (.ListComp elt [⟨tg, iter, ifs, 0⟩, ⟨tg1, iter1, ifs1, 0⟩] scope pos) (some (.Name y py)) spos.line X.env = pure true := by exact sw_true rfl rfl rfl (by decide +kernel)) (hs : ∀ x, foldedSetIterable iter X.env x = pure x := by intro _; rfl) (hs1 : ∀ env x, foldedSetIterable iter1 env x = pure x := by intro _ _; rfl) :
    PSm G X W (.Assign [.Name y py] (.ListComp elt [⟨tg, iter, ifs, 0⟩, ⟨tg1, iter1, ifs1, 0⟩] scope pos) spos) (mSet i fun env h => (mComp2 vs vs1 s g c s1 g1 c1 m env h).noX) := by
  subst hv
  exact PS.imp (ps_setLc2 (wi := tiOf G X.K W0 s) (g := tgOf G X.K _ g) (tt := ttOf G X.K W0 c) (wi1 := tiOf G X.K W0 s1) (g1 := tgOf G X.K _ g1) (tt1 := ttOf G X.K W0 c1) (te := teOf G X.K W0 m) hc hN hy hyl hsw hi ok hv1 hg ht hi1 hg1 ht1 he hs hs1) (setC_ok lc2_ok)
end
end M
namespace M
open PySem PySem.Spec PyProof.Rows L2
section
variable {G : CT} {X : Cx} {W : WX} {K : PySem.W.Frag} {μ : Mu} {H : Hp} {h : AH}
/-! ### isinstance of an own class; an own == -/
structure IsiOk (G : CT) (K : PySem.W.Frag) (mg : Str → Option Value) (c : Nat) (x : Str) : Prop where
  ha : PySem.W.findIn K (.ref (G.cl c)) "__class__" = some (some (.builtin "object.__class__"))
  hn : PySem.W.specialIn K (.builtin "object.__class__") "__get__" = some (some (.builtin "getset_descriptor.__get__"))
  htk : PySem.W.takesIn K (.builtin "object.__class__") = some true
  hm : PySem.W.mroIn K (G.cl c) (.type "object") = some true
  kit : PySem.W.kitOne K (.ref (G.cl c)) (.ref (G.cl c)) = some true
  gl : mg x = some (.ref (G.cl c))
  cls : Cls K (G.cl c)
def mIsiC (c : Nat) (m : EM) : EM := fun env h => (m env h).bind fun t h1 => match t with
  | .ins c' _ => if c' = c then .ok (.bl true) h1 else .bad
  | _ => .bad
theorem pm_isiC {c : Nat} {x : Str} {e : Expr} {m : EM} {p p2 pos : Pos} (hm : X.mg "isinstance" = none) (A : IsiOk G X.K X.mg c x) (he : PEm G X W e m) (hg : Gl X "isinstance" := by rfl) (hgb : Gl X x := by rfl)
    (hd : (x == ("__debug__" : Str)) = false := by decide)
    (hs : starEach (e :: [.Name x p2]) X.env = (false, eval e X.env) :: starEach [.Name x p2] X.env := by rfl) (hpl : (backTo pos (starEach [.Name x p2] X.env)).any (·.1) = false := by rfl)
    (hs2 : starEach [.Name x p2] X.env = (false, eval (.Name x p2) X.env) :: starEach [] X.env := by rfl) :
    PEm G X W (.Call (.Name "isinstance" p) [e, .Name x p2] [] pos) (mIsiC c m) :=
  PE.imp (pe_callB call_isi hg hm (by decide +kernel) (pa_cons he (pa_cons (pe_glob (v := .ref (G.cl c)) hgb A.gl rfl hd) pa_nil hs2) hs) (by decide) (by decide) hs hpl) fun σ H Q q => by
    obtain ⟨μ, env, h, r, re, w⟩ := q
    refine ⟨μ, env, h, r, re, (Want.bind w).mp fun t h1 μ1 H1 _ e1 r1 ⟨_, _, w1⟩ v iv => ?_⟩
    cases iv with
    | @ins a dx c' ts vs s nl l =>
      dsimp only at w1
      split at w1
      · next hc =>
        subst hc
        exact ⟨.ref a, .ref (G.cl c'), _, _, true, rfl, .own _, .base (.ins s A.cls A.ha A.hn A.htk A.hm), A.kit, Want.now (R := wT G X.K Q) r1 w1 _ (.bl _)⟩
      · exact w1.elim
    | _ => exact w1.elim
def rInsEq (C : Addr) (sp : Sp) : R2 := fun x y H Q => ∃ a b dx dy fs gs, x = .ref a ∧ y = .ref b ∧ H a = some (.ins C dx fs) ∧ H b = some (.ins C dy gs) ∧ sp [.ref a, .ref b] H (fun v H' => (∃ r, v = .bl r) ∧ Q v H') (fun _ _ _ => False)
theorem op_insEq {n : Nat} {C f : Addr} {fd : FuncData} {ps : List Str} {sp : Sp} (F : FnOk X.prog X.w X.K X.mg X.base CX0 n f fd ps sp) (hr : Room n X.A)
    (hs : PySem.W.findIn X.K (.ref C) "__eq__" = some (some (.ref f))) (hf : PySem.W.isFn X.K (.ref f) = true) (hb : Binds X.K fd ps []) : OpR X (compareOp .Eq) (rInsEq C sp) := by
  intro pins s σ H x y v u Q I rx ry hq
  obtain ⟨a, b, dx, dy, fs, gs, rfl, rfl, ha, hb', hsp⟩ := hq
  cases rx
  cases ry
  obtain ⟨mA, J, _⟩ := ins_get I.hok ha
  obtain ⟨mB, J', _⟩ := ins_get I.hok hb'
  obtain ⟨od, J, _⟩ := J.look
  obtain ⟨od', J', _⟩ := J'.look
  obtain ⟨m, hF⟩ := I.fr
  show wpAny (model X.prog X.w) X.A (richCompare .Eq (.ref a) (.ref b)) (EP X pins σ Q) X.xe s
  refine PySem.W.cmp_K (op := .Eq) (tb := .ref C) hr.units0 hF I.ok.mod.kin J J'.type (by simp [PySem.W.notFirst]) hs hf ?_
  have hl := F.len _ _ _ _ hsp
  have r2 : Vals [V.ref a, V.ref b] [Value.ref a, Value.ref b] := .cons rfl (.cons rfl .nil)
  refine wpAny_call (codeAny_mono (F.run X.A X.stack s H ⟨[.ref a, .ref b], []⟩ [.ref a, .ref b] [.ref a, .ref b] _ _ hr I.env0 (by
    have := hb s [.ref a, .ref b] I.kIn (by simpa using hl)
    simpa using this) r2 hsp) fun r s' hq => ?_)
  cases r with
  | error e => exact hq.elim
  | ok fl =>
    cases fl with
    | ret w =>
      obtain ⟨z, H', I', rz, ⟨k, ez⟩, ex⟩ := I.after hq
      subst ez
      cases rz
      exact ⟨.bl k, H', I', rfl, ex⟩
    | next => exact False.elim hq
    | brk => exact False.elim hq
    | cont => exact False.elim hq
def mInsEq (c : Nat) (F : FM) (m n : EM) : EM := fun env h => (m env h).bind fun t h1 => (n env h1).bind fun u h2 => match t, u with
  | .ins c1 ts, .ins c2 us => if c1 = c ∧ c2 = c then (F [.ins c1 ts, .ins c2 us] h2).noX.bind fun z h3 => match z with
    | .bl b => .ok (.bl b) h3
    | _ => .bad else .bad
  | _, _ => .bad
theorem pm_insEq {a b : Expr} {c k j : Nat} {F : FM} {m n : EM} {pos : Pos} (A : MtAt G X.prog X.w X.K X.mg X.base CX0 c "__eq__" k (spN G X.K 2 F)) (hr : Room j X.A) (hk : k ≤ j) (ha : PEm G X W a m) (hb : PEm G X W b n) (hm : behindInMarks .Eq b = false := by rfl) :
    PEm G X W (.Compare a [.Eq] [b] pos) (mInsEq c F m n) := by
  obtain ⟨f, fd, ps, hF, hmt, hbn⟩ := A.ex
  refine PE.imp (pe_cmpR (op_insEq hF (hr.mono hk) hmt.at_ hmt.fn hbn) ha hb hm) fun σ H Q q => ?_
  obtain ⟨μ, env, h, r, re, w⟩ := q
  refine ⟨μ, env, h, r, re, (Want.bind w).mp fun t h1 μ1 H1 _ e1 r1 ⟨_, _, w1⟩ v iv => ?_⟩
  refine ⟨μ1, env, h1, r1, re.mono e1, (Want.bind w1).mp fun u h2 μ2 H2 _ e2 r2 ⟨_, _, w2⟩ y iy => ?_⟩
  have iv2 := iv.mono e2
  cases iv2 with
  | @ins a' dx c1 ts vs s1 n1 l1 =>
    cases iy with
    | @ins b' dy c2 us ws s2 n2 l2 =>
      dsimp only at w2
      split at w2
      · next hc =>
        obtain ⟨hc1, hc2⟩ := hc
        subst hc1
        subst hc2
        refine ⟨a', b', dx, dy, _, _, rfl, rfl, s1, s2, μ2, _, h2, r2, .cons (.ins s1 n1 l1) (.cons (.ins s2 n2 l2) .nil), rfl, ?_⟩
        refine Want.noX (W := fun c d H' => W c d σ H') ((Want.bind w2).mp fun z h3 μ3 H3 _ e3 r3 ⟨_, _, w3⟩ zv iz => ?_)
        cases iz with
        | bl k => exact ⟨⟨k, rfl⟩, Want.now (R := wT G X.K Q) r3 w3 _ (.bl k)⟩
        | _ => exact w3.elim
      · exact w2.elim
    | _ => exact w2.elim
  | _ => exact w2.elim
end
end M
namespace M
open PySem PySem.Spec PyProof.Rows L2
section
variable {G : CT} {X : Cx} {W : WX} {K : PySem.W.Frag} {μ : Mu} {H : Hp} {h : AH} {mg : Str → Option Value}
/-! ### what the text says, from the written part -/
theorem sqK {p : Addr} {d : Option Addr} {n : Nat} {sl : Array (Option Value)} {its : Array Value} {xs : List V} (l : K.lookup p = some ⟨.type "tuple", d, .seq its n, sl⟩) (v : Vals xs its.toList) (hs : its.size ≤ sizeLine := by rw [PySem.sizeLine_eq]; exact Nat.le_of_ble_eq_true rfl) : SqT K H p xs := .inr ⟨_, its, n, l, rfl, rfl, hs, v⟩
theorem cst_ref {h : Heap} {x : Str} {t : T} {p : Addr} (X : K.In h) (N : h.Ns mainGlobals mg) (a : PySem.W.nsIn K mainGlobals x = some (some (.ref p))) (i : ∀ G μ H, Is G K μ H t (.ref p)) : CstAt K mg x t := ⟨.ref p, .ref p, PySem.W.mg_of X N a, rfl, i⟩
theorem df_mk {h : Heap} {x : Str} {st : Stmt} {ps : List Str} {f : Addr} {oc : Value} {od an : Option Addr} {osl : Array (Option Value)} {kV doc pm cdv ct : Value} (X : K.In h) (N : h.Ns mainGlobals mg) (a : PySem.W.nsIn K mainGlobals x = some (some (.ref f)))
    (l : K.lookup f = some ⟨oc, od, .func (PySem.W.fnOf x x (defArgs st) (defBody st) (defScope st) .none kV doc pm an cdv ct), osl⟩) (c : PySem.W.codeIn K cdv x = true) (k : PySem.W.keepIn K (.ref f) = true)
    (b : ∀ (kV doc pm : Value) (an : Option Addr) (cdv ct : Value) (us : List Value), us.length = ps.length → bindArgs (PySem.W.fnOf x x (defArgs st) (defBody st) (defScope st) .none kV doc pm an cdv ct) ⟨us, []⟩ = pure (ps.zip us)) : Df K mg x st ps :=
  ⟨f, _, fun_mk l c k, PySem.W.mg_of X N a, (fun_mk l c k).binds b⟩
theorem dfm_mk {c : Nat} {m qual : Str} {st : Stmt} {ps : List Str} {f : Addr} {oc : Value} {od an : Option Addr} {osl : Array (Option Value)} {kV doc pm cdv ct : Value} (a : PySem.W.findIn K (.ref (G.cl c)) m = some (some (.ref f))) (i : PySem.W.isFn K (.ref f) = true)
    (l : K.lookup f = some ⟨oc, od, .func (PySem.W.fnOf m qual (defArgs st) (defBody st) (defScope st) .none kV doc pm an cdv ct), osl⟩) (cd : PySem.W.codeIn K cdv qual = true) (k : PySem.W.keepIn K (.ref f) = true) (cl : Cls K (G.cl c)) (no : m ∉ FL c)
    (b : ∀ (kV doc pm : Value) (an : Option Addr) (cdv ct : Value) (us : List Value), us.length = ps.length → bindArgs (PySem.W.fnOf m qual (defArgs st) (defBody st) (defScope st) .none kV doc pm an cdv ct) ⟨us, []⟩ = pure (ps.zip us)) : DfM G K c m qual st ps :=
  ⟨⟨f, _, fun_mk l cd k, ⟨a, i, k⟩, (fun_mk l cd k).binds b⟩, cl, no⟩
/-- an own class and its __init__ -/
structure DfI (G : CT) (K : PySem.W.Frag) (mg : Str → Option Value) (x : Str) (c : Nat) (qual : Str) (st : Stmt) (ps : List Str) : Prop where
  ex : ∃ f fd, Fun K "__init__" qual st f fd ∧ Mk K (G.cl c) f ∧ Binds K fd ps []
  gl : mg x = some (.ref (G.cl c))
theorem DfI.mk' {P : Program} {w : World} {base : Heap} {x : Str} {c k : Nat} {qual : Str} {st : Stmt} {ps : List Str} {CX : CXT} {sp : Sp} (D : DfI G K mg x c qual st ps) (h : ∀ f fd, Fun K "__init__" qual st f fd → FnOk P w K mg base CX k f fd ps sp) : MkAt G P w K mg base CX x c k sp := by
  obtain ⟨f, fd, F, m, b⟩ := D.ex
  exact ⟨⟨f, fd, ps, h f fd F, m, b⟩, D.gl⟩
theorem dfi_mk {h : Heap} {x : Str} {c : Nat} {qual : Str} {st : Stmt} {ps : List Str} {f : Addr} {oc : Value} {od an : Option Addr} {osl : Array (Option Value)} {kV doc pm cdv ct : Value} (X : K.In h) (N : h.Ns mainGlobals mg) (g : PySem.W.nsIn K mainGlobals x = some (some (.ref (G.cl c))))
    (a : PySem.W.findIn K (.ref (G.cl c)) "__init__" = some (some (.ref f))) (i : PySem.W.isFn K (.ref f) = true)
    (l : K.lookup f = some ⟨oc, od, .func (PySem.W.fnOf "__init__" qual (defArgs st) (defBody st) (defScope st) .none kV doc pm an cdv ct), osl⟩) (cd : PySem.W.codeIn K cdv qual = true) (k : PySem.W.keepIn K (.ref f) = true)
    (mk : PySem.W.makesIn K (G.cl c) = true) (kc : PySem.W.keepIn K (.ref (G.cl c)) = true)
    (b : ∀ (kV doc pm : Value) (an : Option Addr) (cdv ct : Value) (us : List Value), us.length = ps.length → bindArgs (PySem.W.fnOf "__init__" qual (defArgs st) (defBody st) (defScope st) .none kV doc pm an cdv ct) ⟨us, []⟩ = pure (ps.zip us)) : DfI G K mg x c qual st ps :=
  ⟨⟨f, _, fun_mk l cd k, ⟨mk, a, i, kc⟩, (fun_mk l cd k).binds b⟩, PySem.W.mg_of X N g⟩
theorem x1_mk {h : Heap} {x f qual : Str} {c : Nat} {st : Stmt} {fI : Addr} {oc : Value} {od an : Option Addr} {osl : Array (Option Value)} {kV doc pm cdv ct : Value} {nm q : Str} {N0 : Addr} {bs bm : List Value} {sn : List Str} {sub : List Value} {ab : Bool} {col : Option Bool} {dd : Option Addr} {k0 k1 k2 k3 k5 : Option Value}
    (X : K.In h) (N : h.Ns mainGlobals mg) (g : PySem.W.nsIn K mainGlobals x = some (some (.ref (G.xc c))))
    (lc : K.lookup (G.xc c) = some (excClassObj nm q (G.xc c) N0 bs bm true sn sub ab col dd k0 k1 k2 k3 k5 "ValueError.__new__")) (rb : PySem.HandSPX.refsVE bm = true)
    (sa : PySem.W.findIn K (.ref (G.xc c)) "__setattr__" = some (some (.builtin "object.__setattr__"))) (no : PySem.W.findIn K (.ref (G.xc c)) f = some none)
    (ex : PySem.W.subIn K (.ref (G.xc c)) (.type "BaseException") = some true) (ty : PySem.W.typeIn K (.ref (G.xc c)) = some (.type "type")) (kc : PySem.W.keepIn K (.ref (G.xc c)) = true)
    (a : PySem.W.findIn K (.ref (G.xc c)) "__init__" = some (some (.ref fI))) (t : PySem.W.typeIn K (.ref fI) = some (.type "function"))
    (l : K.lookup fI = some ⟨oc, od, .func (PySem.W.fnOf "__init__" qual (defArgs st) (defBody st) (defScope st) .none kV doc pm an cdv ct), osl⟩) (cd : PySem.W.codeIn K cdv qual = true) (k : PySem.W.keepIn K (.ref fI) = true)
    (b : ∀ (kV doc pm : Value) (an : Option Addr) (cdv ct : Value) (us : List Value), us.length = 2 → bindArgs (PySem.W.fnOf "__init__" qual (defArgs st) (defBody st) (defScope st) .none kV doc pm an cdv ct) ⟨us, []⟩ = pure ([("self" : Str), f].zip us)) : X1Tx G K mg x f qual st c :=
  { oex := ⟨⟨nm, q, N0, bs, bm, sn, sub, ab, col, dd, k0, k1, k2, k3, k5, lc, rb⟩, sa, ex, ty, kc⟩, gl := PySem.W.mg_of X N g, init := ⟨fI, _, a, t, fun_mk l cd k, (fun_mk l cd k).binds b⟩, no := no }
theorem exm_own {S C : Addr} {b : Bool} (h1 : PySem.W.subIn K (.ref S) (.type "BaseException") = some true) (h2 : PySem.W.isClsIn K S = true) (h3 : PySem.W.typeIn K (.ref S) = some (.type "type")) (h4 : PySem.W.subIn K (.ref C) (.ref S) = some b) :
    PySem.W.exmOne K (.ref C) (.ref S) = some b := by
  have e1 : (PySem.W.subIn K (.ref S) (.type "BaseException") == some true) = true := by rw [h1] <;> rfl
  have e2 : ((PySem.W.clsIn K S).isSome && PySem.W.typeIn K (.ref S) == some (.type "type")) = true := by
    have h2' : (PySem.W.clsIn K S).isSome = true := h2
    rw [h2', h3] <;> rfl
  show (if (PySem.W.subIn K (.ref S) (.type "BaseException") == some true) = true then (if ((PySem.W.clsIn K S).isSome && PySem.W.typeIn K (.ref S) == some (.type "type")) = true then PySem.W.subIn K (.ref C) (.ref S) else none) else none) = some b
  rw [if_pos e1, if_pos e2]
  exact h4
theorem xm_nil {c : Nat} : XmOk G K c [] := fun _ h => by cases h
theorem xm_cons {c n : Nat} {b : Bool} {cs : List (Nat × Bool)} (h : PySem.W.exmOne K (.ref (G.xc n)) (.ref (G.xc c)) = some b) (r : XmOk G K c cs) : XmOk G K c ((n, b) :: cs) := fun p hp => by
  rcases List.mem_cons.mp hp with e | e
  · subst e
    exact h
  · exact r p e
theorem kit_own {C : Addr} : PySem.W.kitOne K (.ref C) (.ref C) = some true := if_pos (beq_self_eq_true _)
/-! ### the law's end -/
theorem repH_nil : RepH G K ⟨[], []⟩ H [] := ⟨rfl, List.nodup_nil, (fun a q => by cases q), (fun a q => by cases q), fun n a mo q _ => by cases q⟩
theorem sqF_of {a : Addr} {xs : List V} (hO : Only H) (s : SqL K H a xs) : SqF K H a xs := by
  rcases s with (s | ⟨o, s⟩) | s
  · rcases hO a with e | ⟨o, u, e⟩
    · rw [s] at e
      cases e
    · rw [s] at e
      cases e
  · exact .inl ⟨o, s⟩
  · exact .inr s
theorem law_end {F : FM} {a : Addr} {ns : List Int} {E : XK} (hO : Only H) (s : SqL K H a (ns.map V.int)) (hF : ∃ h', F [.scr ns] [] = .ok (.bl true) h') : spN G K 1 F [.ref a] H (fun v _ => v = .bl true) E := by
  obtain ⟨h', e⟩ := hF
  refine ⟨⟨[], []⟩, [.scr ns], [], repH_nil, .cons (.scr (sqF_of hO s)) .nil, rfl, ?_⟩
  rw [e]
  intro μ' H' _ _ v i
  cases i
  rfl
end
end M
namespace M
open PySem PySem.Spec PyProof.Rows L2
/-! ### defs whose arguments have no number: they run on a heap of their own -/
mutual
def clT : T → Bool
  | .non => true | .bl _ => true | .int _ => true | .str _ => true | .scr _ => true
  | .tup ts => clL ts | .ins _ ts => clL ts | .lv ts => clL ts
  | .obj _ => false | .raw _ => false | .dv _ _ => false
def clL : List T → Bool
  | [] => true
  | t :: ts => clT t && clL ts
end
/-- what is told: numbers go, the lists are kept for good -/
def frz (h : AH) : Nat → T → Option T
  | 0, _ => none
  | n + 1, t => match t with
    | .non => some .non | .bl b => some (.bl b) | .int i => some (.int i) | .str x => some (.str x) | .scr ns => some (.scr ns)
    | .tup ts => (allO (frz h n) ts).map .tup
    | .ins c ts => (allO (frz h n) ts).map (.ins c)
    | .lv ts => (allO (frz h n) ts).map .lv
    | .obj k => match h[k]? with
      | some (.lst ts) => (allO (frz h n) ts).map .lv
      | _ => none
    | _ => none
inductive POut where
  | val (t : T) | dict (kts : List (Key × T)) | ex (x : Exn) | bad
def pure0 (N : Nat) (body : SM) (ts : List T) : POut := if clL ts = true then match runB N body ts [] with
  | .ok t h => match frz h 9 t with
    | some t' => .val t'
    | none => match t with
      | .obj k => match h[k]? with
        | some (.dK kts) => if clL (kts.map (·.2)) = true then .dict kts else .bad
        | _ => .bad
      | _ => .bad
  | .ex x h => match x.arg with
    | none => .ex x
    | some t => if clT t = true then .ex x else .bad
  | .bad => .bad
  else .bad
def POut.on (h : AH) : POut → Out T
  | .val t => .ok t h | .dict kts => .ok (.obj h.length) (h ++ [.dK kts]) | .ex x => .ex x h | .bad => .bad
def pureF (N : Nat) (body : SM) : FM := fun ts h => (pure0 N body ts).on h
section
variable {G : CT} {X : Cx} {W : WX} {K : PySem.W.Frag} {μ : Mu} {H : Hp} {h : AH}
mutual
theorem cl_ok {z : List Addr} (hz : ∀ a, a ∈ μ.z → a ∈ z) {m : List Addr} : ∀ {t : T} {v : V}, Is G K μ H t v → clT t = true → Is G K ⟨m, z⟩ H t v
  | _, _, .non, _ => .non
  | _, _, .bl b, _ => .bl b
  | _, _, .int b, _ => .int b
  | _, _, .str b, _ => .str b
  | _, _, .scr b, _ => .scr b
  | _, _, .tup s l, e => .tup s (clL_ok hz l (by simpa [clT] using e))
  | _, _, .ins s n l, e => .ins s n (clL_ok hz l (by simpa [clT] using e))
  | _, _, .lv q s l, e => .lv (hz _ q) s (clL_ok hz l (by simpa [clT] using e))
  | _, _, .obj _, e => by simp [clT] at e
  | _, _, .raw _, e => by simp [clT] at e
  | _, _, .dv _ _ _ _, e => by simp [clT] at e
theorem clL_ok {z : List Addr} (hz : ∀ a, a ∈ μ.z → a ∈ z) {m : List Addr} : ∀ {ts : List T} {vs : List V}, IsL G K μ H ts vs → clL ts = true → IsL G K ⟨m, z⟩ H ts vs
  | _, _, .nil, _ => .nil
  | _, _, .cons a b, e => by
    simp only [clL, Bool.and_eq_true] at e
    exact .cons (cl_ok hz a e.1) (clL_ok hz b e.2)
end
theorem frzL_ok {z m : List Addr} {n : Nat} (ih : ∀ (t : T) (v : V) (t' : T), Is G K μ H t v → frz h n t = some t' → Is G K ⟨m, z⟩ H t' v) : ∀ (ts : List T) (vs : List V) (ts' : List T), IsL G K μ H ts vs → allO (frz h n) ts = some ts' → IsL G K ⟨m, z⟩ H ts' vs
  | [], _, _, .nil, e => by cases e; exact .nil
  | t :: ts, _, _, .cons a b, e => by
    unfold allO at e
    cases q : frz h n t with
    | none => rw [q] at e; cases e
    | some d =>
      rw [q] at e
      dsimp only at e
      cases q2 : allO (frz h n) ts with
      | none => rw [q2] at e; cases e
      | some ds =>
        rw [q2] at e
        cases e
        exact .cons (ih _ _ _ a q) (frzL_ok ih _ _ _ b q2)
theorem map_some {α β : Type} {f : α → β} {o : Option α} {b : β} (e : o.map f = some b) : ∃ a, o = some a ∧ b = f a := by
  cases o with
  | none => cases e
  | some a => cases e; exact ⟨a, rfl, rfl⟩
theorem frz_ok (r : RepH G K μ H h) {z m : List Addr} (hz : ∀ a, a ∈ μ.z → a ∈ z) (hm : ∀ a, a ∈ μ.m → a ∈ z) : ∀ (n : Nat) (t : T) (v : V) (t' : T), Is G K μ H t v → frz h n t = some t' → Is G K ⟨m, z⟩ H t' v
  | 0, _, _, _, _, e => by cases e
  | n + 1, t, v, t', i, e => by
    have ih := frz_ok r hz hm (m := m) n
    unfold frz at e
    cases i with
    | non => cases e; exact .non
    | bl b => cases e; exact .bl b
    | int b => cases e; exact .int b
    | str b => cases e; exact .str b
    | scr b => cases e; exact .scr b
    | tup s l =>
      obtain ⟨ts', q, rfl⟩ := map_some e
      exact .tup s (frzL_ok ih _ _ _ l q)
    | @ins a dx c ts vs s nl l =>
      obtain ⟨ts', q, rfl⟩ := map_some e
      exact .ins s nl (frzL_ok ih _ _ _ l q)
    | lv y s l =>
      obtain ⟨ts', q, rfl⟩ := map_some e
      exact .lv (hz _ y) s (frzL_ok ih _ _ _ l q)
    | @obj k a s =>
      dsimp only at e
      split at e
      · next ts hk =>
        obtain ⟨ts', q, rfl⟩ := map_some e
        obtain ⟨a', o, q1, q2, q3⟩ := r.get hk
        rw [s] at q1
        cases q1
        cases q3 with
        | lst l => exact .lv (hm _ (List.mem_of_getElem? s)) q2 (frzL_ok ih _ _ _ l q)
      · cases e
    | raw v => cases e
    | dv _ _ _ _ => cases e
theorem repH_own (r : RepH G K μ H h) : RepH G K ⟨[], μ.z⟩ H [] := ⟨rfl, List.nodup_nil, (fun a _ q => by cases q), r.zd, fun n a mo q _ => by cases q⟩
/-- behind the run: what was numbered there is kept for good -/
theorem own_ext {μ' : Mu} {H' : Hp} (r : RepH G K μ H h) (e : Ext ⟨[], μ.z⟩ H μ' H') : Ext μ H ⟨μ.m, μ'.z ++ μ'.m⟩ H' := by
  obtain ⟨ν, ζ, q, f, g⟩ := e.pre
  refine ⟨⟨[], ζ ++ ν, ?_, (fun _ h => by cases h), fun a ha => ?_⟩, fun a o q _ => e.fr a o q (by intro z; cases z), e.dom, e.im, fun a o z q => e.zk a o z q⟩
  · rw [q]
    simp
  · rcases List.mem_append.mp ha with z | z
    · exact g a z
    · exact f a z
theorem own_rep {μ' : Mu} {H' : Hp} {h' : AH} (r : RepH G K μ H h) (e : Ext ⟨[], μ.z⟩ H μ' H') (r' : RepH G K μ' H' h') : RepH G K ⟨μ.m, μ'.z ++ μ'.m⟩ H' h := by
  have ex := own_ext r e
  obtain ⟨ν, ζ, q, f, g⟩ := e.pre
  refine ⟨r.len, r.nd, fun a ha hm => ?_, fun a ha => ?_, fun n a mo q1 q2 => ?_⟩
  · rw [q] at ha
    rcases List.mem_append.mp ha with z | z
    · rcases List.mem_append.mp z with z | z
      · exact r.zm a z hm
      · exact r.notin (g a z) hm
    · exact r.notin (f a (by simpa using z)) hm
  · rcases List.mem_append.mp ha with z | z
    · exact r'.zd a z
    · exact r'.here z
  · obtain ⟨o, e1, s⟩ := r.at_ n a mo q1 q2
    exact ⟨o, e.fr a o e1 (by intro z; cases z), s.mono ex⟩
theorem own_extD {μ' : Mu} {H' : Hp} {a : Addr} (r : RepH G K μ H h) (e : Ext ⟨[], μ.z⟩ H μ' H') (ha : a ∈ μ'.m) : Ext μ H ⟨μ.m ++ [a], μ'.z⟩ H' := by
  obtain ⟨ν, ζ, q, f, g⟩ := e.pre
  refine ⟨⟨[a], ζ, ?_, fun b hb => ?_, g⟩, fun a o q _ => e.fr a o q (by intro z; cases z), e.dom, e.im, fun a o z q => e.zk a o z q⟩
  · rw [q]
  · rw [List.mem_singleton.mp hb]
    exact f a (by rw [q] at ha; simpa using ha)
theorem own_repD {μ' : Mu} {H' : Hp} {h' : AH} {a : Addr} {o : HO} {mo : MO} (r : RepH G K μ H h) (e : Ext ⟨[], μ.z⟩ H μ' H') (r' : RepH G K μ' H' h') (ha : a ∈ μ'.m) (h0 : H' a = some o) (s : IsM G K ⟨μ.m ++ [a], μ'.z⟩ H' mo o) : RepH G K ⟨μ.m ++ [a], μ'.z⟩ H' (h ++ [mo]) := by
  have ex := own_extD r e ha
  obtain ⟨ν, ζ, q, f, g⟩ := e.pre
  have na : H a = none := f a (by rw [q] at ha; simpa using ha)
  refine ⟨by simp [r.len], ?_, fun b hb hm => ?_, r'.zd, fun n b m q1 q2 => ?_⟩
  · refine List.nodup_append.mpr ⟨r.nd, by simp, fun x hx y hy => ?_⟩
    have ey : y = a := by simpa using hy
    subst ey
    obtain ⟨u, eu⟩ := r.here hx
    exact ne_of_none eu na
  · rcases List.mem_append.mp hm with z | z
    · rw [q] at hb
      rcases List.mem_append.mp hb with y | y
      · exact r.zm b y z
      · exact r.notin (g b y) z
    · rw [List.mem_singleton.mp z] at hb
      exact r'.zm a hb ha
  · have q1' : (μ.m ++ [a])[n]? = some b := q1
    by_cases hn : n < μ.m.length
    · rw [List.getElem?_append_left hn] at q1'
      rw [List.getElem?_append_left (by rw [← r.len]; exact hn)] at q2
      obtain ⟨u, eu, su⟩ := r.at_ n b m q1' q2
      exact ⟨u, e.fr b u eu (by intro z; cases z), su.mono ex⟩
    · have en : n = μ.m.length := by
        have z := (List.getElem?_eq_some_iff.mp q1').1
        rw [List.length_append] at z
        have z2 : n < μ.m.length + 1 := z
        omega
      subst en
      rw [List.getElem?_append_right (Nat.le_refl _), Nat.sub_self] at q1'
      rw [r.len, List.getElem?_append_right (Nat.le_refl _), Nat.sub_self] at q2
      have z1 : a = b := by simpa using q1'
      have z2 : mo = m := by simpa using q2
      subst z1
      subst z2
      exact ⟨o, h0, s⟩
theorem clK_ok {κ : Type} {z : List Addr} (hz : ∀ a, a ∈ μ.z → a ∈ z) {m : List Addr} : ∀ {ts : List (κ × T)} {vs : List (κ × V)}, IsK G K μ H ts vs → clL (ts.map (·.2)) = true → IsK G K ⟨m, z⟩ H ts vs
  | _, _, .nil, _ => .nil
  | _, _, .cons a b, e => by
    simp only [List.map_cons, clL, Bool.and_eq_true] at e
    exact .cons (cl_ok hz a e.1) (clK_ok hz b e.2)
theorem pure_run {Wh : WH} {N : Nat} {body : SM} {ts : List T} {vs : List V} {Q : VK} (r : RepH G K μ H h) (l : IsL G K μ H ts vs) (w : Want G K Wh (pureF N body ts h) μ H (wT G K Q)) :
    IsL G K ⟨[], μ.z⟩ H ts vs ∧ WantS G K (fun c d _ H' => Wh c d H') { nx := fun _ H' => Q .non H', rt := Q } (body (ts.map some ++ List.replicate (N - ts.length) none) []) ⟨[], μ.z⟩ H := by
  unfold pureF pure0 at w
  split at w
  · next hc =>
    refine ⟨clL_ok (fun a z => z) l hc, runB_want ?_⟩
    cases e : runB N body ts [] with
    | ok t h' =>
      rw [e] at w
      dsimp only at w
      refine fun μ' H' e' r' v i => ?_
      split at w
      · next t' ht =>
        exact w _ _ (own_ext r e') (own_rep r e' r') v (frz_ok r' (fun a z => List.mem_append_left _ z) (fun a z => List.mem_append_right _ z) _ _ _ _ i ht)
      · split at w
        · next k =>
          split at w
          · next kts hk =>
            split at w
            · next hkc =>
              obtain ⟨a, o, q1, q2, q3⟩ := r'.get hk
              cases i with
              | @obj _ a' s =>
                rw [s] at q1
                cases q1
                cases q3 with
                | dK lk =>
                  have ha := List.mem_of_getElem? s
                  refine w _ _ (own_extD r e' ha) (own_repD r e' r' ha q2 (.dK (clK_ok (fun a z => z) lk hkc))) _ (.obj ?_)
                  show (μ.m ++ [a])[h.length]? = _
                  rw [← r.len, List.getElem?_append_right (Nat.le_refl _), Nat.sub_self]
                  rfl
            · exact w.elim
          · exact w.elim
        · exact w.elim
    | ex x h' =>
      rw [e] at w
      dsimp only at w
      refine fun μ' H' c d e' r' i => ?_
      obtain ⟨ic, ia⟩ := i
      split at w
      · next ha =>
        refine w _ _ c d (own_ext r e') (own_rep r e' r') ⟨ic, ?_⟩
        rw [ha] at ia ⊢
        exact ia
      · next t ha =>
        split at w
        · next hct =>
          refine w _ _ c d (own_ext r e') (own_rep r e' r') ⟨ic, ?_⟩
          rw [ha] at ia ⊢
          obtain ⟨dd, v, e1, e2, e3⟩ := ia
          exact ⟨dd, v, e1, e2, cl_ok (fun a z => List.mem_append_left _ z) e3 hct⟩
        · exact w.elim
    | bad => rw [e] at w; exact w.elim
  · exact w.elim
variable {P : Program} {w : World} {mg : Str → Option Value} {base : Heap}
theorem fnm_okP {x qual : Str} {st : Stmt} {f : Addr} {fd : FuncData} {N ps : List Str} {k : Nat} {body : SM} (F : Fun K x qual st f fd) (S : FnScope N ps (defScope st))
    (hb : ∀ (cdv : Value) (A : Around) (outer : List PySem.Env) (s : Shared) (H : Hp) (E : XK), Room k (A.deeper (PyProof.Rows.envOfC qual (defScope st) s.heap.objs.size f cdv)) →
      PSsm G (cxOf CX0 P w K mg base N qual (defScope st) f cdv A outer s H E).nox W0 (defBody st) body) : FnOk P w K mg base CX0 (k + 1) f fd ps (spN G K ps.length (pureF N.length body)) := by
  refine F.ok S (fun vs H Q E q => ?_) (fun cdv A outer s H vs Q E hr q => ?_)
  · obtain ⟨μ, ts, h, r, l, hn, _⟩ := q
    rw [← l.length, hn]
  · obtain ⟨μ, ts, h, r, l, hn, w⟩ := q
    obtain ⟨l0, w0⟩ := pure_run r l w
    exact ⟨_, hb cdv A outer s H E hr, ⟨[], μ.z⟩, _, [], repH_own r, repE_start l0, w0⟩
theorem fnm_okPX {x qual : Str} {st : Stmt} {f : Addr} {fd : FuncData} {N ps : List Str} {k : Nat} {body : SM} (F : Fun K x qual st f fd) (S : FnScope N ps (defScope st))
    (hb : ∀ (cdv : Value) (A : Around) (outer : List PySem.Env) (s : Shared) (H : Hp) (E : XK), Room k (A.deeper (PyProof.Rows.envOfC qual (defScope st) s.heap.objs.size f cdv)) →
      PSsm G (cxOf (L2.CX P w) P w K mg base N qual (defScope st) f cdv A outer s H E) (fun c d _ H => E c d H) (defBody st) body) : FnOk P w K mg base (L2.CX P w) (k + 1) f fd ps (spX G K ps.length (pureF N.length body)) := by
  refine F.okX S (fun vs H Q E q => ?_) (fun cdv A outer s H vs Q E hr q => ?_)
  · obtain ⟨μ, ts, h, r, l, hn, _⟩ := q
    rw [← l.length, hn]
  · obtain ⟨μ, ts, h, r, l, hn, w⟩ := q
    obtain ⟨l0, w0⟩ := pure_run r l w
    exact ⟨_, hb cdv A outer s H E hr, ⟨[], μ.z⟩, _, [], repH_own r, repE_start l0, w0⟩
end
end M
namespace M
open PySem L2
def topS (i : Nat) : Stmt := PySem.Challenge.pw_dealtblocks_k01_rules_refused.main.body.getD i (.Pass ⟨0, 0, 0, 0⟩)
def c_PARTS : T := (.tup [(.str "size"), (.str "rest"), (.str "dealing"), (.str "restoring"), (.str "finding")])
def c_CHOICES : T := (.tup [(.tup [(.int 1), (.int 2)]), (.tup [(.str "lost"), (.str "back")]), (.tup [(.str "empty"), (.str "any")]), (.tup [(.str "as was"), (.str "empty")]), (.tup [(.str "as was"), (.str "empty")])])
def xs_0 : List (Nat × Bool) := [(0, true)]
def m_law_begin : SM := (mRet (mLst (mCons (mCb cList (mCons (mVar 0) mNil)) (mCons (mC (.int 0)) (mCons (mC (.int 0)) (mCons (mC (.int 7)) mNil))))))
def F_law_begin : FM := runB 1 m_law_begin
def m_law_draw : SM := (mSeq (mIf (mCmpT fEq (mOp fIx (mVar 0) (mC (.int 2))) (mC (.int 0))) (mIf (mCmpT fLt (mOp fIx (mVar 0) (mC (.int 1))) (mCb cLen (mCons (mOp fIx (mVar 0) (mC (.int 0))) mNil))) (mSeq (mSet 2 (mOp fIx (mOp fIx (mVar 0) (mC (.int 0))) (mOp fIx (mVar 0) (mC (.int 1))))) (mSeq (mLPut (mOp fAdd (mOp fIx (mVar 0) (mC (.int 1))) (mC (.int 1))) (mVar 0) (mC (.int 1))) (mIf (mCmpT fGe (mVar 2) (mOp fPow (mC (.int 10)) (mC (.int 18)))) (mLPut (mVar 2) (mVar 0) (mC (.int 2))) (mLPut (mOp fMod (mCb cInt (mCons (mOp fAdd (mOp fAdd (mOp fMul (mOp fIx (mVar 0) (mC (.int 3))) (mC (.int 48271))) (mOp fMul (mVar 2) (mC (.int 69621)))) (mC (.int 11))) mNil)) (mC (.int 2147483647))) (mVar 0) (mC (.int 3)))))) (mLPut (mOp fMod (mCb cInt (mCons (mOp fAdd (mOp fMul (mOp fIx (mVar 0) (mC (.int 3))) (mC (.int 48271))) (mC (.int 7))) mNil)) (mC (.int 2147483647))) (mVar 0) (mC (.int 3)))) mNx) (mSeq (mIf (mCmpT fGt (mOp fIx (mVar 0) (mC (.int 2))) (mC (.int 0))) (mSeq (mSet 3 (mOp fMod (mCb cInt (mCons (mOp fIx (mVar 0) (mC (.int 2))) mNil)) (mVar 1))) (mSeq (mLPut (mOp fDiv (mOp fIx (mVar 0) (mC (.int 2))) (mVar 1)) (mVar 0) (mC (.int 2))) (mRet (mVar 3)))) mNx) (mRet (mOp fMod (mOp fMod (mCb cInt (mCons (mOp fMul (mOp fIx (mVar 0) (mC (.int 3))) (mC (.int 16807))) mNil)) (mC (.int 2147483629))) (mVar 1)))))
def F_law_draw : FM := runB 4 m_law_draw
def m_law_parts : SM := (mSeq (mSet 1 (mLv (mCons (mOp fAdd (mC (.int 1)) (mCall 2 F_law_draw (mCons (mVar 0) (mCons (mC (.int 2)) mNil)))) (mCons (mOp fIx (mLv (mCons (mC (.str "lost")) (mCons (mC (.str "back")) mNil))) (mCall 2 F_law_draw (mCons (mVar 0) (mCons (mC (.int 2)) mNil)))) (mCons (mOp fIx (mLv (mCons (mC (.str "empty")) (mCons (mC (.str "any")) mNil))) (mCall 2 F_law_draw (mCons (mVar 0) (mCons (mC (.int 2)) mNil)))) mNil))))) (mRet (mOp fAddM (mVar 1) (mLv (mCons (mOp fIx (mLv (mCons (mC (.str "as was")) (mCons (mC (.str "empty")) mNil))) (mCall 2 F_law_draw (mCons (mVar 0) (mCons (mC (.int 2)) mNil)))) (mCons (mOp fIx (mLv (mCons (mC (.str "as was")) (mCons (mC (.str "empty")) mNil))) (mCall 2 F_law_draw (mCons (mVar 0) (mCons (mC (.int 2)) mNil)))) mNil))))))
def F_law_parts : FM := runB 2 m_law_parts
def m_is_choice : SM := (mSeq (mIf (mTru (mIsi "str" (mOp fIx (mVar 1) (mC (.int 0))))) (mRet (mAndV (mIsi "str" (mVar 0)) (mCmp (fIn false) (mVar 0) (mVar 1)))) mNx) (mRet (mAndV (mIsi "int" (mVar 0)) (mAndV (mNotV (mIsi "bool" (mVar 0))) (mCmp (fIn false) (mVar 0) (mVar 1))))))
def F_is_choice : FM := pureF 2 m_is_choice
def mp_Rule : SM := mFor (gT 3 (gCn (gN 6) (gCn (gN 7) (gCn (gN 8) gNl)))) (sZip3 (mCons (mC c_PARTS) (mCons (mTup (mCons (mVar 1) (mCons (mVar 2) (mCons (mVar 3) (mCons (mVar 4) (mCons (mVar 5) mNil)))))) (mCons (mC c_CHOICES) mNil)))) (mIf (mNotB (mTru (mCall 2 F_is_choice (mCons (mVar 7) (mCons (mVar 8) mNil))))) (mRaise1 0 (mVar 6)) mNx)
def ms_Rule : EL := (mCons (mVar 1) (mCons (mVar 2) (mCons (mVar 3) (mCons (mVar 4) (mCons (mVar 5) mNil)))))
def F_Rule : FM := F_stX 0 9 mp_Rule ms_Rule .non
def m_law_rule : SM := (mRet (mMakeX 5 F_Rule (mCons (mOp fIx (mVar 0) (mC (.int 0))) (mCons (mOp fIx (mVar 0) (mC (.int 1))) (mCons (mOp fIx (mVar 0) (mC (.int 2))) (mCons (mOp fIx (mVar 0) (mC (.int 3))) (mCons (mOp fIx (mVar 0) (mC (.int 4))) mNil)))))))
def F_law_rule : FM := runB 1 m_law_rule
def m_law_choices : SM := (mRet (mLv (mCons (mLv (mCons (mC (.int 1)) (mCons (mC (.int 2)) mNil))) (mCons (mLv (mCons (mC (.str "lost")) (mCons (mC (.str "back")) mNil))) (mCons (mLv (mCons (mC (.str "empty")) (mCons (mC (.str "any")) mNil))) (mCons (mLv (mCons (mC (.str "as was")) (mCons (mC (.str "empty")) mNil))) (mCons (mLv (mCons (mC (.str "as was")) (mCons (mC (.str "empty")) mNil))) mNil)))))))
def F_law_choices : FM := pureF 0 m_law_choices
def m_law_due : SM := (mSeq (mSet 1 (mLv (mCons (mC (.str "size")) (mCons (mC (.str "rest")) (mCons (mC (.str "dealing")) (mCons (mC (.str "restoring")) (mCons (mC (.str "finding")) mNil))))))) (mSeq (mFor (gN 2) (sRng1 (mCons (mC (.int 5)) mNil)) (mSeq (mSet 3 (mAndV (mNotV (mIsi "bool" (mOp fIx (mVar 0) (mVar 2)))) (mCb cAny (mCons (mComp [4] (sVal (mOp fIx (mCall 0 F_law_choices mNil) (mVar 2))) (gN 4) mYes (mCmp fEq (mOp fIx (mVar 0) (mVar 2)) (mVar 4))) mNil)))) (mIf (mNotB (mTru (mVar 3))) (mRet (mOp fIx (mVar 1) (mVar 2))) mNx))) (mRet (mC .non))))
def F_law_due : FM := runB 5 m_law_due
def m_all_rules : SM := (mSeq (mSet 0 (mLv (mCons (mTup mNil) mNil))) (mSeq (mFor (gN 1) (sVal (mC c_CHOICES)) (mSet 0 (fun env h => (mComp2 [2, 3] [3] (sVal (mVar 0)) (gN 2) mYes (sVal (mVar 1)) (gN 3) mYes (mOp fAdd (mVar 2) (mTup (mCons (mVar 3) mNil))) env h).noX))) (mRet (mComp [2] (sVal (mVar 0)) (gN 2) mYes (mMakeX 5 F_Rule (mCons (mOp fIx (mVar 2) (mC (.int 0))) (mCons (mOp fIx (mVar 2) (mC (.int 1))) (mCons (mOp fIx (mVar 2) (mC (.int 2))) (mCons (mOp fIx (mVar 2) (mC (.int 3))) (mCons (mOp fIx (mVar 2) (mC (.int 4))) mNil))))))))))
def F_all_rules : FM := pureF 4 m_all_rules
def m_law_fields : SM := (mRet (mLv (mCons (mFld (mVar 0) 0 0) (mCons (mFld (mVar 0) 0 1) (mCons (mFld (mVar 0) 0 2) (mCons (mFld (mVar 0) 0 3) (mCons (mFld (mVar 0) 0 4) mNil)))))))
def F_law_fields : FM := pureF 1 m_law_fields
def m_law_every : SM := (mSeq (mSet 0 (mLv (mCons (mLv mNil) mNil))) (mSeq (mFor (gN 1) (sVal (mCall 0 F_law_choices mNil)) (mSeq (mSet 2 (mLv mNil)) (mSeq (mFor (gN 3) (sVal (mVar 0)) (mSet 2 (mOp fAdd (mVar 2) (mComp [4] (sVal (mVar 1)) (gN 4) mYes (mOp fAdd (mVar 3) (mLv (mCons (mVar 4) mNil))))))) (mSet 0 (mVar 2))))) (mRet (mVar 0))))
def F_law_every : FM := pureF 5 m_law_every
def m_Rule_parts : SM := (mRet (mTup (mCons (mFld (mVar 0) 0 0) (mCons (mFld (mVar 0) 0 1) (mCons (mFld (mVar 0) 0 2) (mCons (mFld (mVar 0) 0 3) (mCons (mFld (mVar 0) 0 4) mNil)))))))
def F_Rule_parts : FM := pureF 1 m_Rule_parts
def m_Rule_eq : SM := (mRet (mAndV (mIsiC 0 (mVar 1)) (mCmp fEq (mMeth 0 1 F_Rule_parts (mVar 0) mNil) (mMeth 0 1 F_Rule_parts (mVar 1) mNil))))
def F_Rule_eq : FM := pureF 2 m_Rule_eq
def m_law : SM := (mSeq (mSet 1 (mCall 1 F_law_begin (mCons (mVar 0) mNil))) (mSeq (mSet 2 (mCall 1 F_law_parts (mCons (mVar 1) mNil))) (mSeq (mFor (gN 3) (sRng1 (mCons (mCall 2 F_law_draw (mCons (mVar 1) (mCons (mC (.int 3)) mNil))) mNil)) (mSeq (mSet 4 (mLv (mCons (mC .non) (mCons (mC (.int 0)) (mCons (mC (.int 3)) (mCons (mC (.bl true)) (mCons (mC (.str "any")) (mCons (mC (.str "back")) (mCons (mC (.str "as was")) (mCons (mC (.str "empty")) (mCons (mC (.str "lost")) (mCons (mC (.str "")) (mCons (mTup (mCons (mC (.str "lost")) mNil)) (mCons (mC (.int 1)) mNil)))))))))))))) (mLPut (mOp fIx (mVar 4) (mCall 2 F_law_draw (mCons (mVar 1) (mCons (mCb cLen (mCons (mVar 4) mNil)) mNil)))) (mVar 2) (mCall 2 F_law_draw (mCons (mVar 1) (mCons (mC (.int 5)) mNil)))))) (mSeq (mSet 5 (mC .non)) (mSeq (mSet 6 (mC .non)) (mSeq (mTryF 0 xs_0 7 5 (mSet 6 (mCallX 1 F_law_rule (mCons (mVar 2) mNil)))) (mSeq (mIf (mCmpT fNe (mVar 5) (mCall 1 F_law_due (mCons (mVar 2) mNil))) (mRet (mC (.bl false))) mNx) (mSeq (mIf (mCmpT fNe (mComp [9] (sVal (mCall 0 F_all_rules mNil)) (gN 9) mYes (mCall 1 F_law_fields (mCons (mVar 9) mNil))) (mCall 0 F_law_every mNil)) (mRet (mC (.bl false))) mNx) (mSeq (mIf (mCmpT (fIsN true) (mVar 6) (mC .non)) (mRet (mC (.bl true))) mNx) (mSeq (mSet 8 (mCall 1 F_law_parts (mCons (mVar 1) mNil))) (mRet (mAndV (mCmp fEq (mCall 1 F_law_fields (mCons (mVar 6) mNil)) (mVar 2)) (mCmp fEq (mInsEq 0 F_Rule_eq (mVar 6) (mCallX 1 F_law_rule (mCons (mVar 8) mNil))) (mCmp fEq (mVar 2) (mVar 8)))))))))))))))
def F_law : FM := runB 10 m_law
end M
namespace M
open PySem L2
def chs : List T := [.tup [.int 1, .int 2], .tup [.str "lost", .str "back"], .tup [.str "empty", .str "any"], .tup [.str "as was", .str "empty"], .tup [.str "as was", .str "empty"]]
/-- the names of the parts -/
def nms : List T := [.str "size", .str "rest", .str "dealing", .str "restoring", .str "finding"]
theorem loop_t {s : Src} {g : T → Env → Option Env} {body : SM} {f i : Nat} {env : Env} {h : AH} {t : T} (e : s.nx i h = some (some t)) : loopS s g body (f + 1) i env h = turnS g body t env h (loopS s g body f (i + 1)) := by
  rw [loopS, e]
theorem loop_e {s : Src} {g : T → Env → Option Env} {body : SM} {f i : Nat} {env : Env} {h : AH} (e : s.nx i h = some none) : loopS s g body (f + 1) i env h = .nx env h := by
  rw [loopS, e]
/-- the test of one part -/
def tst (x c : T) (h : AH) : Out Bool := mNotB (mTru (mCall 2 F_is_choice (mCons (mVar 0) (mCons (mVar 1) mNil)))) [some x, some c] h
theorem turn_rule {x c nm : T} {a0 a1 a2 a3 a4 a5 o6 o7 o8 : Option T} {h : AH} {K : Env → AH → OutS} :
    turnS (gT 3 (gCn (gN 6) (gCn (gN 7) (gCn (gN 8) gNl)))) (mIf (mNotB (mTru (mCall 2 F_is_choice (mCons (mVar 7) (mCons (mVar 8) mNil))))) (mRaise1 0 (mVar 6)) mNx) (.tup [nm, x, c]) [a0, a1, a2, a3, a4, a5, o6, o7, o8] h K =
      match tst x c h with
      | .ok true h1 => .ex ⟨0, some nm⟩ [a0, a1, a2, a3, a4, a5, some nm, some x, some c] h1
      | .ok false h1 => K [a0, a1, a2, a3, a4, a5, some nm, some x, some c] h1
      | .ex y h1 => .ex y [a0, a1, a2, a3, a4, a5, some nm, some x, some c] h1
      | .bad => .bad := by
  show (mIf (mNotB (mTru (mCall 2 F_is_choice (mCons (mVar 7) (mCons (mVar 8) mNil))))) (mRaise1 0 (mVar 6)) mNx [a0, a1, a2, a3, a4, a5, some nm, some x, some c] h).loop K = _
  have e2 : mNotB (mTru (mCall 2 F_is_choice (mCons (mVar 7) (mCons (mVar 8) mNil)))) [a0, a1, a2, a3, a4, a5, some nm, some x, some c] h = tst x c h := rfl
  unfold mIf
  rw [e2]
  cases tst x c h with
  | ok b h1 => cases b <;> rfl
  | ex y h1 => rfl
  | bad => rfl
def ruleR (all : List T) : Nat → List T → AH → Out T
  | _, [], h => .ok (.ins 0 all) h
  | k, x :: xs, h => match tst x (chs.getD k .non) h with
    | .ok true h1 => .ex ⟨0, some (nms.getD k .non)⟩ h1
    | .ok false h1 => ruleR all (k + 1) xs h1
    | .ex y h1 => .ex y h1
    | .bad => .bad
theorem rule_gen {x1 x2 x3 x4 x5 : T} (v : V) (h : AH) : F_stX 0 9 mp_Rule ms_Rule v [x1, x2, x3, x4, x5] h = ruleR [x1, x2, x3, x4, x5] 0 [x1, x2, x3, x4, x5] h := by
  have e0 : mp_Rule [some (.raw v), some x1, some x2, some x3, some x4, some x5, none, none, none] h =
    loopS (.upto [.tup [.str "size", x1, .tup [.int 1, .int 2]], .tup [.str "rest", x2, .tup [.str "lost", .str "back"]], .tup [.str "dealing", x3, .tup [.str "empty", .str "any"]], .tup [.str "restoring", x4, .tup [.str "as was", .str "empty"]], .tup [.str "finding", x5, .tup [.str "as was", .str "empty"]]]) (gT 3 (gCn (gN 6) (gCn (gN 7) (gCn (gN 8) gNl)))) (mIf (mNotB (mTru (mCall 2 F_is_choice (mCons (mVar 7) (mCons (mVar 8) mNil))))) (mRaise1 0 (mVar 6)) mNx) 6 0 [some (.raw v), some x1, some x2, some x3, some x4, some x5, none, none, none] h := by rfl
  unfold F_stX
  show (match mp_Rule [some (.raw v), some x1, some x2, some x3, some x4, some x5, none, none, none] h with
    | .nx env h' => match env with
      | some (.raw u) :: _ => if u = v then match ms_Rule env h' with
        | .ok us h2 => if us.length = (FL 0).length then Out.ok (T.ins 0 us) h2 else .bad
        | _ => .bad else .bad
      | _ => .bad
    | .ex x _ h' => .ex x h'
    | _ => .bad) = _
  rw [e0, loop_t rfl, turn_rule]
  simp only [ruleR, chs, nms, List.getD_cons_zero, List.getD_cons_succ]
  cases tst x1 (.tup [.int 1, .int 2]) h with
  | bad => rfl
  | ex y h1 => rfl
  | ok b h1 =>
    cases b with
    | true => rfl
    | false =>
      dsimp only
      rw [loop_t rfl, turn_rule]
      cases tst x2 (.tup [.str "lost", .str "back"]) h1 with
      | bad => rfl
      | ex y h1 => rfl
      | ok b h1 =>
        cases b with
        | true => rfl
        | false =>
          dsimp only
          rw [loop_t rfl, turn_rule]
          cases tst x3 (.tup [.str "empty", .str "any"]) h1 with
          | bad => rfl
          | ex y h1 => rfl
          | ok b h1 =>
            cases b with
            | true => rfl
            | false =>
              dsimp only
              rw [loop_t rfl, turn_rule]
              cases tst x4 (.tup [.str "as was", .str "empty"]) h1 with
              | bad => rfl
              | ex y h1 => rfl
              | ok b h1 =>
                cases b with
                | true => rfl
                | false =>
                  dsimp only
                  rw [loop_t rfl, turn_rule]
                  cases tst x5 (.tup [.str "as was", .str "empty"]) h1 with
                  | bad => rfl
                  | ex y h1 => rfl
                  | ok b h1 =>
                    cases b with
                    | true => rfl
                    | false =>
                      dsimp only
                      rw [loop_e rfl]
                      dsimp only
                      rw [if_pos rfl]
                      rfl
theorem ind_Rule : ∀ v ts h, ts.length = 5 → F_stX 0 9 mp_Rule ms_Rule v ts h = F_Rule ts h := fun v ts h hl => match ts, hl with
  | [x1, x2, x3, x4, x5], _ => (rule_gen v h).trans (rule_gen .non h).symm
end M
namespace M
open PySem L2

abbrev s_law_begin : Stmt := (topS 10)
theorem sc_law_begin : FnScope ["_law_script"] ["_law_script"] (defScope s_law_begin) := ⟨rfl, rfl, rfl, by decide +kernel, rfl, by decide +kernel, by decide +kernel⟩
abbrev s_law_draw : Stmt := (topS 11)
theorem sc_law_draw : FnScope ["_law_draws", "_law_many", "_law_cell", "_law_found"] ["_law_draws", "_law_many"] (defScope s_law_draw) := ⟨rfl, rfl, rfl, by decide +kernel, rfl, by decide +kernel, by decide +kernel⟩
abbrev s_law_parts : Stmt := (topS 12)
theorem sc_law_parts : FnScope ["_law_draws", "_law_first"] ["_law_draws"] (defScope s_law_parts) := ⟨rfl, rfl, rfl, by decide +kernel, rfl, by decide +kernel, by decide +kernel⟩
abbrev s_is_choice : Stmt := (topS 6)
theorem sc_is_choice : FnScope ["value", "some"] ["value", "some"] (defScope s_is_choice) := ⟨rfl, rfl, rfl, by decide +kernel, rfl, by decide +kernel, by decide +kernel⟩
abbrev s_BadRule_init : Stmt := (inClass (topS 2) 0)
theorem sc_BadRule_init : FnScope ["self", "part"] ["self", "part"] (defScope s_BadRule_init) := ⟨rfl, rfl, rfl, by decide +kernel, rfl, by decide +kernel, by decide +kernel⟩
abbrev s_Rule_init : Stmt := (inClass (topS 7) 0)
theorem sc_Rule_init : FnScope ["self", "size", "rest", "dealing", "restoring", "finding", "part", "value", "some"] ["self", "size", "rest", "dealing", "restoring", "finding"] (defScope s_Rule_init) := ⟨rfl, rfl, rfl, by decide +kernel, rfl, by decide +kernel, by decide +kernel⟩
abbrev s_law_rule : Stmt := (topS 13)
theorem sc_law_rule : FnScope ["_law_parts_here"] ["_law_parts_here"] (defScope s_law_rule) := ⟨rfl, rfl, rfl, by decide +kernel, rfl, by decide +kernel, by decide +kernel⟩
abbrev s_law_choices : Stmt := (topS 16)
theorem sc_law_choices : FnScope [] [] (defScope s_law_choices) := ⟨rfl, rfl, rfl, by decide +kernel, rfl, by decide +kernel, by decide +kernel⟩
abbrev s_law_due : Stmt := (topS 17)
theorem sc_law_due : FnScope ["_law_parts_here", "_law_names", "_law_k", "_law_good", "_law_value"] ["_law_parts_here"] (defScope s_law_due) := ⟨rfl, rfl, rfl, by decide +kernel, rfl, by decide +kernel, by decide +kernel⟩
abbrev s_all_rules : Stmt := (topS 8)
theorem sc_all_rules : FnScope ["rows", "some", "row", "value"] [] (defScope s_all_rules) := ⟨rfl, rfl, rfl, by decide +kernel, rfl, by decide +kernel, by decide +kernel⟩
abbrev s_law_fields : Stmt := (topS 19)
theorem sc_law_fields : FnScope ["_law_rule_here"] ["_law_rule_here"] (defScope s_law_fields) := ⟨rfl, rfl, rfl, by decide +kernel, rfl, by decide +kernel, by decide +kernel⟩
abbrev s_law_every : Stmt := (topS 18)
theorem sc_law_every : FnScope ["_law_rows", "_law_some", "_law_grown", "_law_row", "_law_value"] [] (defScope s_law_every) := ⟨rfl, rfl, rfl, by decide +kernel, rfl, by decide +kernel, by decide +kernel⟩
abbrev s_Rule_parts : Stmt := (inClass (topS 7) 1)
theorem sc_Rule_parts : FnScope ["self"] ["self"] (defScope s_Rule_parts) := ⟨rfl, rfl, rfl, by decide +kernel, rfl, by decide +kernel, by decide +kernel⟩
abbrev s_Rule_eq : Stmt := (inClass (topS 7) 2)
theorem sc_Rule_eq : FnScope ["self", "other"] ["self", "other"] (defScope s_Rule_eq) := ⟨rfl, rfl, rfl, by decide +kernel, rfl, by decide +kernel, by decide +kernel⟩
abbrev s_law : Stmt := (topS 20)
theorem sc_law : FnScope ["_law_script", "_law_draws", "_law_parts_here", "_law_k", "_law_odd", "_law_told", "_law_rule_here", "e", "_law_other", "_law_one"] ["_law_script"] (defScope s_law) := ⟨rfl, rfl, rfl, by decide +kernel, rfl, by decide +kernel, by decide +kernel⟩
structure Tx (G : CT) (K : PySem.W.Frag) (mg : Str → Option Value) : Prop where
  d_law_begin : Df K mg "_law_begin" s_law_begin ["_law_script"]
  d_law_draw : Df K mg "_law_draw" s_law_draw ["_law_draws", "_law_many"]
  d_law_parts : Df K mg "_law_parts" s_law_parts ["_law_draws"]
  d_is_choice : Df K mg "is_choice" s_is_choice ["value", "some"]
  x0 : X1Tx G K mg "BadRule" "part" "BadRule.__init__" s_BadRule_init 0
  i0 : DfI G K mg "Rule" 0 "Rule.__init__" s_Rule_init ["self", "size", "rest", "dealing", "restoring", "finding"]
  d_law_rule : Df K mg "_law_rule" s_law_rule ["_law_parts_here"]
  d_law_choices : Df K mg "_law_choices" s_law_choices []
  d_law_due : Df K mg "_law_due" s_law_due ["_law_parts_here"]
  d_all_rules : Df K mg "all_rules" s_all_rules []
  d_law_fields : Df K mg "_law_fields" s_law_fields ["_law_rule_here"]
  d_law_every : Df K mg "_law_every" s_law_every []
  d_Rule_parts : DfM G K 0 "parts" "Rule.parts" s_Rule_parts ["self"]
  d_Rule_eq : DfM G K 0 "__eq__" "Rule.__eq__" s_Rule_eq ["self", "other"]
  d_law : Df K mg "law" s_law ["_law_script"]
  lw : ∃ f fd, Fun K "law" "law" s_law f fd ∧ mg "law" = some (.ref f) ∧ ∀ (s : Shared) (u : Value), BindsTo s fd ⟨[u], []⟩ [("_law_script", u)]
  n_any : mg "any" = none
  n_bool : mg "bool" = none
  n_int : mg "int" = none
  n_isinstance : mg "isinstance" = none
  n_len : mg "len" = none
  n_list : mg "list" = none
  n_range : mg "range" = none
  n_str : mg "str" = none
  n_zip : mg "zip" = none
  c_PARTS : CstAt K mg "PARTS" c_PARTS
  c_CHOICES : CstAt K mg "CHOICES" c_CHOICES
  cl0 : ClOk G K 0
  e0 : XmOk G K 0 xs_0
  xf0 : XfC K (G.xc 0)
  ic0 : IsiOk G K mg 0 "Rule"
section
variable {G : CT} {P : Program} {w : World} {K : PySem.W.Frag} {mg : Str → Option Value} {base : Heap}
theorem ok_law_begin (T : Tx G K mg)  : FnAt P w K mg base CX0 "_law_begin" 1 (spN G K 1 F_law_begin) :=
  T.d_law_begin.fn fun f fd F => fnm_ok (N := ["_law_script"]) F sc_law_begin (body := m_law_begin) fun cdv A outer s H E hr =>
    (pssm_one (psm_ret (pm_lst (pam_cons (pm_cty call_list_of cbm_list T.n_list (pam_cons (pm_var 0) pam_nil)) (pam_cons (pm_int) (pam_cons (pm_int) (pam_cons (pm_int) pam_nil)))))))
theorem ok_law_draw (T : Tx G K mg)  : FnAt P w K mg base CX0 "_law_draw" 1 (spN G K 2 F_law_draw) :=
  T.d_law_draw.fn fun f fd F => fnm_ok (N := ["_law_draws", "_law_many", "_law_cell", "_law_found"]) F sc_law_draw (body := m_law_draw) fun cdv A outer s H E hr =>
    (pssm_cons (psm_if (ptm_cmp (op_eqM hr.units) cmm_eq (pm_ix (pm_var 0) (pm_int)) (pm_int) (nomark _)) (pssm_one (psm_if (ptm_cmp op_lt cmm_int (pm_ix (pm_var 0) (pm_int)) (pm_cb call_len cbm_len T.n_len (pam_cons (pm_ix (pm_var 0) (pm_int)) pam_nil)) (nomark _)) (pssm_cons (psm_set 2 sc_law_draw.nd (pm_ix (pm_ix (pm_var 0) (pm_int)) (pm_ix (pm_var 0) (pm_int)))) (pssm_cons (psm_lput (pm_var 0) (pm_int) (pm_add (pm_ix (pm_var 0) (pm_int)) (pm_int))) (pssm_one (psm_if (ptm_cmp op_ge cmm_int (pm_var 2) (pm_pow (pm_int) (pm_int)) (nomark _)) (pssm_one (psm_lput (pm_var 0) (pm_int) (pm_var 2))) (pssm_one (psm_lput (pm_var 0) (pm_int) (pm_mod (pm_cty call_int1 cbm_int T.n_int (pam_cons (pm_add (pm_add (pm_mul (pm_ix (pm_var 0) (pm_int)) (pm_int)) (pm_mul (pm_var 2) (pm_int))) (pm_int)) pam_nil)) (pm_int)))))))) (pssm_one (psm_lput (pm_var 0) (pm_int) (pm_mod (pm_cty call_int1 cbm_int T.n_int (pam_cons (pm_add (pm_mul (pm_ix (pm_var 0) (pm_int)) (pm_int)) (pm_int)) pam_nil)) (pm_int)))))) pssm_nil) (pssm_cons (psm_if (ptm_cmp op_gt cmm_int (pm_ix (pm_var 0) (pm_int)) (pm_int) (nomark _)) (pssm_cons (psm_set 3 sc_law_draw.nd (pm_mod (pm_cty call_int1 cbm_int T.n_int (pam_cons (pm_ix (pm_var 0) (pm_int)) pam_nil)) (pm_var 1))) (pssm_cons (psm_lput (pm_var 0) (pm_int) (pm_div (pm_ix (pm_var 0) (pm_int)) (pm_var 1))) (pssm_one (psm_ret (pm_var 3))))) pssm_nil) (pssm_one (psm_ret (pm_mod (pm_mod (pm_cty call_int1 cbm_int T.n_int (pam_cons (pm_mul (pm_ix (pm_var 0) (pm_int)) (pm_int)) pam_nil)) (pm_int)) (pm_var 1))))))
theorem ok_law_parts (T : Tx G K mg) (A_law_draw : FnAt P w K mg base CX0 "_law_draw" 1 (spN G K 2 F_law_draw)) : FnAt P w K mg base CX0 "_law_parts" 2 (spN G K 1 F_law_parts) :=
  T.d_law_parts.fn fun f fd F => fnm_ok (N := ["_law_draws", "_law_first"]) F sc_law_parts (body := m_law_parts) fun cdv A outer s H E hr =>
    (pssm_cons (psm_set 1 sc_law_parts.nd (pm_lv (pam_cons (pm_add (pm_int) (pm_call A_law_draw hr (by decide) (pam_cons (pm_var 0) (pam_cons (pm_int) pam_nil)))) (pam_cons (pm_ix (pm_lv (pam_cons (pm_str) (pam_cons (pm_str) pam_nil))) (pm_call A_law_draw hr (by decide) (pam_cons (pm_var 0) (pam_cons (pm_int) pam_nil)))) (pam_cons (pm_ix (pm_lv (pam_cons (pm_str) (pam_cons (pm_str) pam_nil))) (pm_call A_law_draw hr (by decide) (pam_cons (pm_var 0) (pam_cons (pm_int) pam_nil)))) pam_nil))))) (pssm_one (psm_ret (pm_addM (pm_var 1) (pm_lv (pam_cons (pm_ix (pm_lv (pam_cons (pm_str) (pam_cons (pm_str) pam_nil))) (pm_call A_law_draw hr (by decide) (pam_cons (pm_var 0) (pam_cons (pm_int) pam_nil)))) (pam_cons (pm_ix (pm_lv (pam_cons (pm_str) (pam_cons (pm_str) pam_nil))) (pm_call A_law_draw hr (by decide) (pam_cons (pm_var 0) (pam_cons (pm_int) pam_nil)))) pam_nil)))))))
theorem ok_is_choice (T : Tx G K mg)  : FnAt P w K mg base CX0 "is_choice" 1 (spN G K 2 F_is_choice) :=
  T.d_is_choice.fn fun f fd F => fnm_okP (N := ["value", "some"]) F sc_is_choice (body := m_is_choice) fun cdv A outer s H E hr =>
    (pssm_cons (psm_if (ptm_val (pm_isi T.n_isinstance T.n_str (pm_ix (pm_var 1) (pm_int)))) (pssm_one (psm_ret (pm_and (pm_isi T.n_isinstance T.n_str (pm_var 0)) (pm_one (pm_cmp op_in_seq cmm_in (pm_var 0) (pm_var 1) (by rfl)))))) pssm_nil) (pssm_one (psm_ret (pm_and (pm_isi T.n_isinstance T.n_int (pm_var 0)) (pm_and (pm_not (pm_isi T.n_isinstance T.n_bool (pm_var 0))) (pm_one (pm_cmp op_in_seq cmm_in (pm_var 0) (pm_var 1) (by rfl))))))))
theorem ok_BadRule_init (T : Tx G K mg)  : X1Ok G P w K mg base "BadRule" "part" 0 :=
  T.x0.ok rfl sc_BadRule_init fun fI cdv A outer s H E => pss_one (ps_ost (pv 0) (pv 1))
theorem ok_Rule_init (T : Tx G K mg) (A_is_choice : FnAt P w K mg base CX0 "is_choice" 1 (spN G K 2 F_is_choice)) (A_BadRule_init : X1Ok G P w K mg base "BadRule" "part" 0) : MkAt G P w K mg base (L2.CX P w) "Rule" 0 3 (spM G K 0 5 F_Rule true) :=
  T.i0.mk' fun f fd F => init_okX (N := ["self", "size", "rest", "dealing", "restoring", "finding", "part", "value", "some"]) (mp := mp_Rule) (m := ms_Rule) F sc_Rule_init rfl rfl ind_Rule fun cdv A outer s H E hr =>
    ⟨psm_for (vs := [6, 7, 8]) (passes_of rfl) rfl (pim_zip3 T.n_zip (pam_cons (pm_cst T.c_PARTS) (pam_cons (pm_tup (pam_cons (pm_var 1) (pam_cons (pm_var 2) (pam_cons (pm_var 3) (pam_cons (pm_var 4) (pam_cons (pm_var 5) pam_nil)))))) (pam_cons (pm_cst T.c_CHOICES) pam_nil)))) (pgm_tup 3 rfl (pgsm_cons (pgm_name 6 (by decide) sc_Rule_init.nd) (pgsm_cons (pgm_name 7 (by decide) sc_Rule_init.nd) (pgsm_cons (pgm_name 8 (by decide) sc_Rule_init.nd) pgsm_nil)))) (pssm_one (psm_if (ptm_not (ptm_val (pm_call A_is_choice hr (by decide) (pam_cons (pm_var 7) (pam_cons (pm_var 8) pam_nil))))) (pssm_one (psm_raise1 A_BadRule_init rfl (takes_of rfl rfl rfl rfl) hr (by decide) (pm_var 6))) pssm_nil)),
    (st_cons T.cl0.cls (T.cl0.no _ (by decide)) rfl (by decide) (by decide) (pv 0) (pm_var 1) (st_cons T.cl0.cls (T.cl0.no _ (by decide)) rfl (by decide) (by decide) (pv 0) (pm_var 2) (st_cons T.cl0.cls (T.cl0.no _ (by decide)) rfl (by decide) (by decide) (pv 0) (pm_var 3) (st_cons T.cl0.cls (T.cl0.no _ (by decide)) rfl (by decide) (by decide) (pv 0) (pm_var 4) (st_cons T.cl0.cls (T.cl0.no _ (by decide)) rfl (by decide) (by decide) (pv 0) (pm_var 5) (st_nil rfl))))))⟩
theorem ok_law_rule (T : Tx G K mg) (A_Rule_init : MkAt G P w K mg base (L2.CX P w) "Rule" 0 3 (spM G K 0 5 F_Rule true)) : FnAt P w K mg base (L2.CX P w) "_law_rule" 5 (spX G K 1 F_law_rule) :=
  T.d_law_rule.fn fun f fd F => fnm_okX (N := ["_law_parts_here"]) F sc_law_rule (body := m_law_rule) fun cdv A outer s H E hr =>
    (pssm_one (psm_ret (pm_makeX A_Rule_init (takes_of rfl rfl rfl rfl) hr (by decide) (pam_cons (pm_ix (pm_var 0) (pm_int)) (pam_cons (pm_ix (pm_var 0) (pm_int)) (pam_cons (pm_ix (pm_var 0) (pm_int)) (pam_cons (pm_ix (pm_var 0) (pm_int)) (pam_cons (pm_ix (pm_var 0) (pm_int)) pam_nil))))))))
theorem ok_law_choices (T : Tx G K mg)  : FnAt P w K mg base CX0 "_law_choices" 1 (spN G K 0 F_law_choices) :=
  T.d_law_choices.fn fun f fd F => fnm_okP (N := []) F sc_law_choices (body := m_law_choices) fun cdv A outer s H E hr =>
    (pssm_one (psm_ret (pm_lv (pam_cons (pm_lv (pam_cons (pm_int) (pam_cons (pm_int) pam_nil))) (pam_cons (pm_lv (pam_cons (pm_str) (pam_cons (pm_str) pam_nil))) (pam_cons (pm_lv (pam_cons (pm_str) (pam_cons (pm_str) pam_nil))) (pam_cons (pm_lv (pam_cons (pm_str) (pam_cons (pm_str) pam_nil))) (pam_cons (pm_lv (pam_cons (pm_str) (pam_cons (pm_str) pam_nil))) pam_nil))))))))
theorem ok_law_due (T : Tx G K mg) (A_law_choices : FnAt P w K mg base CX0 "_law_choices" 1 (spN G K 0 F_law_choices)) : FnAt P w K mg base CX0 "_law_due" 2 (spN G K 1 F_law_due) :=
  T.d_law_due.fn fun f fd F => fnm_ok (N := ["_law_parts_here", "_law_names", "_law_k", "_law_good", "_law_value"]) F sc_law_due (body := m_law_due) fun cdv A outer s H E hr =>
    (pssm_cons (psm_set 1 sc_law_due.nd (pm_lv (pam_cons (pm_str) (pam_cons (pm_str) (pam_cons (pm_str) (pam_cons (pm_str) (pam_cons (pm_str) pam_nil))))))) (pssm_cons (psm_for (vs := [2]) PassesOwn.never rfl (pim_rng1 T.n_range (pam_cons (pm_int) pam_nil)) (pgm_name 2 (by decide) sc_law_due.nd) (pssm_cons (psm_set 3 sc_law_due.nd (pm_and (pm_not (pm_isi T.n_isinstance T.n_bool (pm_ix (pm_var 0) (pm_var 2)))) (pm_one (pm_cb (cr_any rfl) cbm_any T.n_any (pam_cons (pm_lc [("_law_value", 4)] rfl sc_law_due.nd (pim_val (pm_ix (pm_call0 A_law_choices hr (by decide)) (pm_var 2))) (blkOk_by (by kernel_rfl)) rfl (fun _ _ _ _ _ => (pgm_name 4 (by decide) sc_law_due.nd)) (fun _ _ _ _ _ => ptm_nil) (fun _ _ _ _ _ => (pm_cmp (op_eqM hr.units) cmm_eq (pm_ix (pm_var 0) (pm_var 2)) (pm_var 4) (nomark _)))) pam_nil))))) (pssm_one (psm_if (ptm_not (ptm_val (pm_var 3))) (pssm_one (psm_ret (pm_ix (pm_var 1) (pm_var 2)))) pssm_nil)))) (pssm_one (psm_ret (pm_non)))))
theorem ok_all_rules (T : Tx G K mg) (A_Rule_init : MkAt G P w K mg base (L2.CX P w) "Rule" 0 3 (spM G K 0 5 F_Rule true)) : FnAt P w K mg base CX0 "all_rules" 5 (spN G K 0 F_all_rules) :=
  T.d_all_rules.fn fun f fd F => fnm_okP (N := ["rows", "some", "row", "value"]) F sc_all_rules (body := m_all_rules) fun cdv A outer s H E hr =>
    (pssm_cons (psm_set 0 sc_all_rules.nd (pm_lv (pam_cons (pm_tup pam_nil) pam_nil))) (pssm_cons (psm_for (vs := [1]) PassesOwn.never rfl (pim_val (pm_cst T.c_CHOICES)) (pgm_name 1 (by decide) sc_all_rules.nd) (pssm_one (psm_setLc2 0 [("row", 2), ("value", 3)] rfl sc_all_rules.nd (pim_val (pm_var 0)) (blkOk_by (by kernel_rfl)) rfl (by decide : ∀ i ∈ ([3] : List Nat), i ∈ ([2, 3] : List Nat)) (fun _ _ _ _ _ => (pgm_name 2 (by decide) sc_all_rules.nd)) (fun _ _ _ _ _ => ptm_nil) (fun _ _ _ _ _ => (pim_val (pm_var 1))) (fun _ _ _ _ _ => (pgm_name 3 (by decide) sc_all_rules.nd)) (fun _ _ _ _ _ => ptm_nil) (fun _ _ _ _ _ => (pm_add (pm_var 2) (pm_tup (pam_cons (pm_var 3) pam_nil))))))) (pssm_one (psm_ret (pm_lc [("row", 2)] rfl sc_all_rules.nd (pim_val (pm_var 0)) (blkOk_by (by kernel_rfl)) rfl (fun _ _ _ _ _ => (pgm_name 2 (by decide) sc_all_rules.nd)) (fun _ _ _ _ _ => ptm_nil) (fun _ _ _ _ _ => (pm_makeX A_Rule_init takes0 hr (by decide) (pam_cons (pm_ix (pm_var 2) (pm_int)) (pam_cons (pm_ix (pm_var 2) (pm_int)) (pam_cons (pm_ix (pm_var 2) (pm_int)) (pam_cons (pm_ix (pm_var 2) (pm_int)) (pam_cons (pm_ix (pm_var 2) (pm_int)) pam_nil))))))))))))
theorem ok_law_fields (T : Tx G K mg)  : FnAt P w K mg base CX0 "_law_fields" 1 (spN G K 1 F_law_fields) :=
  T.d_law_fields.fn fun f fd F => fnm_okP (N := ["_law_rule_here"]) F sc_law_fields (body := m_law_fields) fun cdv A outer s H E hr =>
    (pssm_one (psm_ret (pm_lv (pam_cons (pm_fld 0 0 T.cl0 rfl (pm_var 0)) (pam_cons (pm_fld 0 1 T.cl0 rfl (pm_var 0)) (pam_cons (pm_fld 0 2 T.cl0 rfl (pm_var 0)) (pam_cons (pm_fld 0 3 T.cl0 rfl (pm_var 0)) (pam_cons (pm_fld 0 4 T.cl0 rfl (pm_var 0)) pam_nil))))))))
theorem ok_law_every (T : Tx G K mg) (A_law_choices : FnAt P w K mg base CX0 "_law_choices" 1 (spN G K 0 F_law_choices)) : FnAt P w K mg base CX0 "_law_every" 2 (spN G K 0 F_law_every) :=
  T.d_law_every.fn fun f fd F => fnm_okP (N := ["_law_rows", "_law_some", "_law_grown", "_law_row", "_law_value"]) F sc_law_every (body := m_law_every) fun cdv A outer s H E hr =>
    (pssm_cons (psm_set 0 sc_law_every.nd (pm_lv (pam_cons (pm_lv pam_nil) pam_nil))) (pssm_cons (psm_for (vs := [1]) PassesOwn.never rfl (pim_val (pm_call0 A_law_choices hr (by decide))) (pgm_name 1 (by decide) sc_law_every.nd) (pssm_cons (psm_set 2 sc_law_every.nd (pm_lv pam_nil)) (pssm_cons (psm_for (vs := [3]) PassesOwn.never rfl (pim_val (pm_var 0)) (pgm_name 3 (by decide) sc_law_every.nd) (pssm_one (psm_set 2 sc_law_every.nd (pm_add (pm_var 2) (pm_lc [("_law_value", 4)] rfl sc_law_every.nd (pim_val (pm_var 1)) (blkOk_by (by kernel_rfl)) rfl (fun _ _ _ _ _ => (pgm_name 4 (by decide) sc_law_every.nd)) (fun _ _ _ _ _ => ptm_nil) (fun _ _ _ _ _ => (pm_add (pm_var 3) (pm_lv (pam_cons (pm_var 4) pam_nil))))))))) (pssm_one (psm_set 0 sc_law_every.nd (pm_var 2)))))) (pssm_one (psm_ret (pm_var 0)))))
theorem ok_Rule_parts (T : Tx G K mg)  : MtAt G P w K mg base CX0 0 "parts" 1 (spN G K 1 F_Rule_parts) :=
  T.d_Rule_parts.mt fun f fd F => fnm_okP (N := ["self"]) F sc_Rule_parts (body := m_Rule_parts) fun cdv A outer s H E hr =>
    (pssm_one (psm_ret (pm_tup (pam_cons (pm_fld 0 0 T.cl0 rfl (pm_var 0)) (pam_cons (pm_fld 0 1 T.cl0 rfl (pm_var 0)) (pam_cons (pm_fld 0 2 T.cl0 rfl (pm_var 0)) (pam_cons (pm_fld 0 3 T.cl0 rfl (pm_var 0)) (pam_cons (pm_fld 0 4 T.cl0 rfl (pm_var 0)) pam_nil))))))))
theorem ok_Rule_eq (T : Tx G K mg) (A_Rule_parts : MtAt G P w K mg base CX0 0 "parts" 1 (spN G K 1 F_Rule_parts)) : MtAt G P w K mg base CX0 0 "__eq__" 2 (spN G K 2 F_Rule_eq) :=
  T.d_Rule_eq.mt fun f fd F => fnm_okP (N := ["self", "other"]) F sc_Rule_eq (body := m_Rule_eq) fun cdv A outer s H E hr =>
    (pssm_one (psm_ret (pm_and (pm_isiC T.n_isinstance T.ic0 (pm_var 1)) (pm_one (pm_cmp (op_eqM hr.units) cmm_eq (pm_meth0 A_Rule_parts hr (by decide) (pm_var 0)) (pm_meth0 A_Rule_parts hr (by decide) (pm_var 1)) (nomark _))))))
theorem ok_law (T : Tx G K mg) (A_law_begin : FnAt P w K mg base CX0 "_law_begin" 1 (spN G K 1 F_law_begin)) (A_law_parts : FnAt P w K mg base CX0 "_law_parts" 2 (spN G K 1 F_law_parts)) (A_law_draw : FnAt P w K mg base CX0 "_law_draw" 1 (spN G K 2 F_law_draw)) (A_law_rule : FnAt P w K mg base (L2.CX P w) "_law_rule" 5 (spX G K 1 F_law_rule)) (A_law_due : FnAt P w K mg base CX0 "_law_due" 2 (spN G K 1 F_law_due)) (A_all_rules : FnAt P w K mg base CX0 "all_rules" 5 (spN G K 0 F_all_rules)) (A_law_fields : FnAt P w K mg base CX0 "_law_fields" 1 (spN G K 1 F_law_fields)) (A_law_every : FnAt P w K mg base CX0 "_law_every" 2 (spN G K 0 F_law_every)) (A_Rule_eq : MtAt G P w K mg base CX0 0 "__eq__" 2 (spN G K 2 F_Rule_eq)) {f : Addr} {fd : FuncData} (F : Fun K "law" "law" s_law f fd) : FnOk P w K mg base CX0 6 f fd ["_law_script"] (spN G K 1 F_law) :=
  fnm_ok (N := ["_law_script", "_law_draws", "_law_parts_here", "_law_k", "_law_odd", "_law_told", "_law_rule_here", "e", "_law_other", "_law_one"]) F sc_law (body := m_law) fun cdv A outer s H E hr =>
    (pssm_cons (psm_set 1 sc_law.nd (pm_call A_law_begin hr (by decide) (pam_cons (pm_var 0) pam_nil))) (pssm_cons (psm_set 2 sc_law.nd (pm_call A_law_parts hr (by decide) (pam_cons (pm_var 1) pam_nil))) (pssm_cons (psm_for (vs := [3]) PassesOwn.never rfl (pim_rng1 T.n_range (pam_cons (pm_call A_law_draw hr (by decide) (pam_cons (pm_var 1) (pam_cons (pm_int) pam_nil))) pam_nil)) (pgm_name 3 (by decide) sc_law.nd) (pssm_cons (psm_set 4 sc_law.nd (pm_lv (pam_cons (pm_non) (pam_cons (pm_int) (pam_cons (pm_int) (pam_cons (pm_bl) (pam_cons (pm_str) (pam_cons (pm_str) (pam_cons (pm_str) (pam_cons (pm_str) (pam_cons (pm_str) (pam_cons (pm_str) (pam_cons (pm_tup (pam_cons (pm_str) pam_nil)) (pam_cons (pm_int) pam_nil)))))))))))))) (pssm_one (psm_lput (pm_var 2) (pm_call A_law_draw hr (by decide) (pam_cons (pm_var 1) (pam_cons (pm_int) pam_nil))) (pm_ix (pm_var 4) (pm_call A_law_draw hr (by decide) (pam_cons (pm_var 1) (pam_cons (pm_cb call_len cbm_len T.n_len (pam_cons (pm_var 4) pam_nil)) pam_nil)))))))) (pssm_cons (psm_set 5 sc_law.nd (pm_non)) (pssm_cons (psm_set 6 sc_law.nd (pm_non)) (pssm_cons (psm_tryF (i := 7) (j := 5) T.e0 T.x0.gl T.xf0 T.x0.no rfl rfl rfl sc_law.nd takes0 (fun W1 pn1 xe1 tk1 po1 => (pssm_one (psm_set 6 sc_law.nd (pm_callX A_law_rule tk1 hr (by decide) (pam_cons (pm_var 2) pam_nil))))) (hst := fun a oe cls d pn hz hf => ps_set (i := 5) sc_law.nd rfl (Or.inl rfl) (pe_xf T.xf0 T.x0.no hz hf (pv 7)))) (pssm_cons (psm_if (ptm_cmp (op_neM hr.units) cmm_ne (pm_var 5) (pm_call A_law_due hr (by decide) (pam_cons (pm_var 2) pam_nil)) (nomark _)) (pssm_one (psm_ret (pm_bl))) pssm_nil) (pssm_cons (psm_if (ptm_cmp (op_neM hr.units) cmm_ne (pm_lc [("_law_one", 9)] rfl sc_law.nd (pim_val (pm_call0 A_all_rules hr (by decide))) (blkOk_by (by kernel_rfl)) rfl (fun _ _ _ _ _ => (pgm_name 9 (by decide) sc_law.nd)) (fun _ _ _ _ _ => ptm_nil) (fun _ _ _ _ _ => (pm_call A_law_fields hr (by decide) (pam_cons (pm_var 9) pam_nil)))) (pm_call0 A_law_every hr (by decide)) (nomark _)) (pssm_one (psm_ret (pm_bl))) pssm_nil) (pssm_cons (psm_if (ptm_cmp op_isN cmm_isN (pm_var 6) (pm_non) (nomark _)) (pssm_one (psm_ret (pm_bl))) pssm_nil) (pssm_cons (psm_set 8 sc_law.nd (pm_call A_law_parts hr (by decide) (pam_cons (pm_var 1) pam_nil))) (pssm_one (psm_ret (pm_and (pm_cmp (op_eqM hr.units) cmm_eq (pm_call A_law_fields hr (by decide) (pam_cons (pm_var 6) pam_nil)) (pm_var 2) (nomark _)) (pm_one (pm_cmp (op_eqM hr.units) cmm_eq (pm_insEq A_Rule_eq hr (by decide) (pm_var 6) (pm_callX A_law_rule takes0 hr (by decide) (pam_cons (pm_var 8) pam_nil))) (pm_cmp (op_eqM hr.units) cmm_eq (pm_var 2) (pm_var 8) (nomark _)) (nomark _))))))))))))))))
theorem all_ok (T : Tx G K mg) {f : Addr} {fd : FuncData} (F : Fun K "law" "law" s_law f fd) : FnOk P w K mg base CX0 6 f fd ["_law_script"] (spN G K 1 F_law) :=
  have A_law_begin : FnAt P w K mg base CX0 "_law_begin" 1 (spN G K 1 F_law_begin) := ok_law_begin T 
  have A_law_draw : FnAt P w K mg base CX0 "_law_draw" 1 (spN G K 2 F_law_draw) := ok_law_draw T 
  have A_law_parts : FnAt P w K mg base CX0 "_law_parts" 2 (spN G K 1 F_law_parts) := ok_law_parts T A_law_draw
  have A_is_choice : FnAt P w K mg base CX0 "is_choice" 1 (spN G K 2 F_is_choice) := ok_is_choice T 
  have A_BadRule_init : X1Ok G P w K mg base "BadRule" "part" 0 := ok_BadRule_init T 
  have A_Rule_init : MkAt G P w K mg base (L2.CX P w) "Rule" 0 3 (spM G K 0 5 F_Rule true) := ok_Rule_init T A_is_choice A_BadRule_init
  have A_law_rule : FnAt P w K mg base (L2.CX P w) "_law_rule" 5 (spX G K 1 F_law_rule) := ok_law_rule T A_Rule_init
  have A_law_choices : FnAt P w K mg base CX0 "_law_choices" 1 (spN G K 0 F_law_choices) := ok_law_choices T 
  have A_law_due : FnAt P w K mg base CX0 "_law_due" 2 (spN G K 1 F_law_due) := ok_law_due T A_law_choices
  have A_all_rules : FnAt P w K mg base CX0 "all_rules" 5 (spN G K 0 F_all_rules) := ok_all_rules T A_Rule_init
  have A_law_fields : FnAt P w K mg base CX0 "_law_fields" 1 (spN G K 1 F_law_fields) := ok_law_fields T 
  have A_law_every : FnAt P w K mg base CX0 "_law_every" 2 (spN G K 0 F_law_every) := ok_law_every T A_law_choices
  have A_Rule_parts : MtAt G P w K mg base CX0 0 "parts" 1 (spN G K 1 F_Rule_parts) := ok_Rule_parts T 
  have A_Rule_eq : MtAt G P w K mg base CX0 0 "__eq__" 2 (spN G K 2 F_Rule_eq) := ok_Rule_eq T A_Rule_parts
  ok_law T A_law_begin A_law_parts A_law_draw A_law_rule A_law_due A_all_rules A_law_fields A_law_every A_Rule_eq F
end
end M
namespace M
open PySem L2
/-! ### drawing -/
abbrev hD (ns : List Int) (p q r : Int) (rest : AH) : AH := .lst [.lv (ns.map T.int), .int p, .int q, .int r] :: rest
structure DB (ns : List Int) (p q r : Int) : Prop where
  p0 : 0 ≤ p
  p1 : p ≤ ns.length
  q0 : 0 ≤ q
  r0 : 0 ≤ r
  r1 : r < 2147483647
structure NB (ns : List Int) : Prop where
  len : ns.length ≤ 63
  bits : ∀ z ∈ ns, Builtin.Int.intBits z ≤ 1048576
theorem bits_small {z : Int} (h : z.natAbs < 2 ^ 40) : Builtin.Int.intBits z ≤ 64 := by
  unfold Builtin.Int.intBits
  split
  · omega
  · next hz =>
    have hn : z.natAbs ≠ 0 := by
      intro e
      apply hz
      rw [Int.natAbs_eq_zero] at e
      rw [e]
      rfl
    have : z.natAbs.log2 < 40 := (Nat.log2_lt hn).mpr h
    omega
theorem cMul_ok {a b : Int} (ha : Builtin.Int.intBits a ≤ 1048576) (hb : b.natAbs < 2 ^ 40) : cMul a b = true := by
  unfold cMul
  have := bits_small hb
  exact decide_eq_true (by omega)
theorem atI_nat {ns : List T} {i : Nat} (h : i < ns.length) : atI ns (i : Int) = ns[i]? := by
  unfold atI ixN
  rw [if_pos (by omega), if_pos (by omega)]
  rfl
theorem ixN_0 {n : Nat} : ixN (n + 1) 0 = some 0 := by
  unfold ixN
  rw [if_pos (by omega), if_pos (by omega)]
  rfl
theorem ixN_1 {n : Nat} : ixN (n + 1 + 1) 1 = some 1 := by
  unfold ixN
  rw [if_pos (by omega), if_pos (by omega)]
  rfl
theorem ixN_2 {n : Nat} : ixN (n + 1 + 1 + 1) 2 = some 2 := by
  unfold ixN
  rw [if_pos (by omega), if_pos (by omega)]
  rfl
theorem ixN_3 {n : Nat} : ixN (n + 1 + 1 + 1 + 1) 3 = some 3 := by
  unfold ixN
  rw [if_pos (by omega), if_pos (by omega)]
  rfl
theorem ixN_4 {n : Nat} : ixN (n + 1 + 1 + 1 + 1 + 1) 4 = some 4 := by
  unfold ixN
  rw [if_pos (by omega), if_pos (by omega)]
  rfl
theorem atI_0 {α : Type} {a : α} {l : List α} : atI (a :: l) 0 = some a := by
  unfold atI
  rw [List.length_cons, ixN_0]
  rfl
theorem atI_1 {α : Type} {a b : α} {l : List α} : atI (a :: b :: l) 1 = some b := by
  unfold atI
  rw [List.length_cons, List.length_cons, ixN_1]
  rfl
theorem atI_2 {α : Type} {a b c : α} {l : List α} : atI (a :: b :: c :: l) 2 = some c := by
  unfold atI
  rw [List.length_cons, List.length_cons, List.length_cons, ixN_2]
  rfl
theorem atI_3 {α : Type} {a b c d : α} {l : List α} : atI (a :: b :: c :: d :: l) 3 = some d := by
  unfold atI
  rw [List.length_cons, List.length_cons, List.length_cons, List.length_cons, ixN_3]
  rfl
theorem atI_4 {α : Type} {a b c d e : α} {l : List α} : atI (a :: b :: c :: d :: e :: l) 4 = some e := by
  unfold atI
  rw [List.length_cons, List.length_cons, List.length_cons, List.length_cons, List.length_cons, ixN_4]
  rfl
theorem fIx_obj {n : Nat} {i : Int} {h : AH} {ts : List T} {u : T} (e : h[n]? = some (.lst ts)) (a : atI ts i = some u) : fIx (.obj n) (.int i) h = some (u, h) := by
  unfold fIx
  simp only [itemsT, e, a]
theorem fIx_tup {i : Int} {h : AH} {ts : List T} {u : T} (a : atI ts i = some u) : fIx (.tup ts) (.int i) h = some (u, h) := by
  unfold fIx
  simp only [itemsT, a]
section
variable {ns : List Int} {p q r : Int} {rest : AH}
theorem d0 : fIx (.obj 0) (.int 0) (hD ns p q r rest) = some (.lv (ns.map T.int), hD ns p q r rest) := fIx_obj rfl atI_0
theorem d1 : fIx (.obj 0) (.int 1) (hD ns p q r rest) = some (.int p, hD ns p q r rest) := fIx_obj rfl atI_1
theorem d2 : fIx (.obj 0) (.int 2) (hD ns p q r rest) = some (.int q, hD ns p q r rest) := fIx_obj rfl atI_2
theorem d3 : fIx (.obj 0) (.int 3) (hD ns p q r rest) = some (.int r, hD ns p q r rest) := fIx_obj rfl atI_3
theorem dL {h : AH} : cLen [.lv (ns.map T.int)] h = some (.int (ns.length : Int), h) := by
  show some (T.int ((ns.map T.int).length : Int), h) = _
  rw [List.length_map]
theorem dC {h : AH} (hp : 0 ≤ p) (hl : p < ns.length) : ∃ c, c ∈ ns ∧ fIx (.lv (ns.map T.int)) (.int p) h = some (.int c, h) := by
  have hl' : p.toNat < ns.length := by omega
  refine ⟨ns[p.toNat], List.getElem_mem hl', ?_⟩
  unfold fIx
  have e : atI (ns.map T.int) p = some (.int ns[p.toNat]) := by
    unfold atI ixN
    rw [List.length_map, if_pos hp, if_pos hl]
    show (ns.map T.int)[p.toNat]? = _
    rw [List.getElem?_map, List.getElem?_eq_getElem hl']
    rfl
  simp only [itemsT, e]
end
/-- a list's item is put -/
theorem lput_ok {mv mo mk : EM} {env : Env} {h h1 h2 h3 : AH} {v : T} {n : Nat} {i : Int} {ts : List T} {j : Nat} (e1 : mv env h = .ok v h1) (e2 : mo env h1 = .ok (.obj n) h2) (e3 : mk env h2 = .ok (.int i) h3) (e4 : h3[n]? = some (.lst ts)) (e5 : ixN ts.length i = some j) : mLPut mv mo mk env h = .nx env (h3.set n (.lst (ts.set j v))) := by
  unfold mLPut
  simp only [e1, e2, e3, e4, e5, Out.st]
theorem op_e {f : T → T → AH → Option (T × AH)} {m n : EM} {env : Env} {h h1 h2 h3 : AH} {t u a : T} (e1 : m env h = .ok t h1) (e2 : n env h1 = .ok u h2) (e3 : f t u h2 = some (a, h3)) : mOp f m n env h = .ok a h3 := by
  unfold mOp
  simp only [e1, e2, e3, Out.bind, Out.of]
theorem var_e {env : Env} {h : AH} {i : Nat} {t : T} (e : env[i]? = some (some t)) : mVar i env h = .ok t h := by
  unfold mVar
  rw [e]
theorem c_e {env : Env} {h : AH} {t : T} : mC t env h = .ok t h := rfl
theorem cb_e {f : List T → AH → Option (T × AH)} {m : EL} {env : Env} {h h1 h2 : AH} {ts : List T} {a : T} (e1 : m env h = .ok ts h1) (e2 : f ts h1 = some (a, h2)) : mCb f m env h = .ok a h2 := by
  unfold mCb
  simp only [e1, e2, Out.bind, Out.of]
theorem nil_e {env : Env} {h : AH} : mNil env h = .ok [] h := rfl
theorem cons_e {m : EM} {r : EL} {env : Env} {h h1 h2 : AH} {t : T} {ts : List T} (e1 : m env h = .ok t h1) (e2 : r env h1 = .ok ts h2) : mCons m r env h = .ok (t :: ts) h2 := by
  unfold mCons
  simp only [e1, e2, Out.bind]
theorem cmpT_e {f : T → T → AH → Option Bool} {m n : EM} {env : Env} {h h1 h2 : AH} {t u : T} {b : Bool} (e1 : m env h = .ok t h1) (e2 : n env h1 = .ok u h2) (e3 : f t u h2 = some b) : mCmpT f m n env h = .ok b h2 := by
  unfold mCmpT
  simp only [e1, e2, e3, Out.bind]
theorem if_t {c : EB} {a b : SM} {env : Env} {h h1 : AH} (e1 : c env h = .ok true h1) : mIf c a b env h = a env h1 := by
  unfold mIf
  simp only [e1, Out.st, if_pos]
theorem if_f {c : EB} {a b : SM} {env : Env} {h h1 : AH} (e1 : c env h = .ok false h1) : mIf c a b env h = b env h1 := by
  unfold mIf
  simp only [e1, Out.st]
  rfl
theorem if_fn {c : EB} {a : SM} {env : Env} {h h1 : AH} (e1 : c env h = .ok false h1) : mIf c a mNx env h = .nx env h1 := if_f e1
theorem set_e {i : Nat} {m : EM} {env : Env} {h h1 : AH} {t : T} (e1 : m env h = .ok t h1) : mSet i m env h = .nx (env.set i (some t)) h1 := by
  unfold mSet
  simp only [e1, Out.st]
theorem ret_e {m : EM} {env : Env} {h h1 : AH} {t : T} (e1 : m env h = .ok t h1) : mRet m env h = .rt t h1 := by
  unfold mRet
  simp only [e1, Out.st]
theorem seq_n {a b : SM} {env env1 : Env} {h h1 : AH} (e1 : a env h = .nx env1 h1) : mSeq a b env h = b env1 h1 := by
  unfold mSeq
  simp only [e1, OutS.seq]
theorem seq_r {a b : SM} {env : Env} {h h1 : AH} {t : T} (e1 : a env h = .rt t h1) : mSeq a b env h = .rt t h1 := by
  unfold mSeq
  simp only [e1, OutS.seq]
theorem run_r {n : Nat} {body : SM} {ts : List T} {h h1 : AH} {t : T} (e1 : body (ts.map some ++ List.replicate (n - ts.length) none) h = .rt t h1) : runB n body ts h = .ok t h1 := by
  unfold runB
  rw [e1]
/-- what is drawn behind the block -/
theorem draw_end {ns : List Int} {p q r m : Int} {rest : AH} {o2 o3 : Option T} (B : DB ns p q r) (hm0 : 0 < m) (hm1 : m ≤ 1000) : ∃ v q', 0 ≤ v ∧ v < m ∧ DB ns p q' r ∧
    (mSeq (mIf (mCmpT fGt (mOp fIx (mVar 0) (mC (.int 2))) (mC (.int 0))) (mSeq (mSet 3 (mOp fMod (mCb cInt (mCons (mOp fIx (mVar 0) (mC (.int 2))) mNil)) (mVar 1))) (mSeq (mLPut (mOp fDiv (mOp fIx (mVar 0) (mC (.int 2))) (mVar 1)) (mVar 0) (mC (.int 2))) (mRet (mVar 3)))) mNx) (mRet (mOp fMod (mOp fMod (mCb cInt (mCons (mOp fMul (mOp fIx (mVar 0) (mC (.int 3))) (mC (.int 16807))) mNil)) (mC (.int 2147483629))) (mVar 1)))) [some (.obj 0), some (.int m), o2, o3] (hD ns p q r rest) = .rt (.int v) (hD ns p q' r rest) := by
  obtain ⟨b1, b2, b3, b4, b5⟩ := B
  have dm : decide (0 < m) = true := decide_eq_true hm0
  by_cases hq : 0 < q
  · refine ⟨q % m, q / m, Int.emod_nonneg _ (by omega), Int.emod_lt_of_pos _ hm0, ⟨b1, b2, Int.ediv_nonneg b3 (by omega), b4, b5⟩, ?_⟩
    have hc : fGt (.int q) (.int 0) (hD ns p q r rest) = some true := by
      show some (decide (q > 0)) = some true
      rw [decide_eq_true hq]
    have e3 : fMod (.int q) (.int m) (hD ns p q r rest) = some (.int (q % m), hD ns p q r rest) := by
      show (if decide (0 < m) = true then some (T.int (q % m), hD ns p q r rest) else none) = _
      rw [dm]
      rfl
    have e4 : fDiv (.int q) (.int m) (hD ns p q r rest) = some (.int (q / m), hD ns p q r rest) := by
      show (if (decide (0 < m) && decide (m < 1073741824)) = true then some (T.int (q / m), hD ns p q r rest) else none) = _
      rw [dm, decide_eq_true (show m < 1073741824 by omega)]
      rfl
    refine seq_r ?_
    rw [if_t (cmpT_e (op_e (var_e rfl) c_e d2) c_e hc)]
    rw [seq_n (set_e (op_e (cb_e (cons_e (op_e (var_e rfl) c_e d2) nil_e) rfl) (var_e rfl) e3))]
    rw [seq_n (lput_ok (op_e (op_e (var_e rfl) c_e d2) (var_e rfl) e4) (var_e rfl) c_e rfl (by exact ixN_2))]
    exact ret_e (var_e rfl)
  · have e0 : q = 0 := by omega
    subst e0
    have hc : fGt (.int 0) (.int 0) (hD ns p 0 r rest) = some false := rfl
    refine ⟨r * 16807 % 2147483629 % m, 0, Int.emod_nonneg _ (by omega), Int.emod_lt_of_pos _ hm0, ⟨b1, b2, b3, b4, b5⟩, ?_⟩
    have e1 : fMul (.int r) (.int 16807) (hD ns p 0 r rest) = some (.int (r * 16807), hD ns p 0 r rest) := by
      show (if cMul r 16807 = true then some (T.int (r * 16807), hD ns p 0 r rest) else none) = _
      rw [cMul_ok (Nat.le_trans (bits_small (by omega)) (by decide)) (by decide)]
      rfl
    have e3 : fMod (.int (r * 16807 % 2147483629)) (.int m) (hD ns p 0 r rest) = some (.int (r * 16807 % 2147483629 % m), hD ns p 0 r rest) := by
      show (if decide (0 < m) = true then some (T.int _, hD ns p 0 r rest) else none) = _
      rw [dm]
      rfl
    rw [seq_n (if_fn (cmpT_e (op_e (var_e rfl) c_e d2) c_e hc))]
    exact ret_e (op_e (op_e (cb_e (cons_e (op_e (op_e (var_e rfl) c_e d3) c_e e1) nil_e) rfl) c_e rfl) (var_e rfl) e3)
theorem draw_ok {ns : List Int} (N : NB ns) {p q r m : Int} {rest : AH} (B : DB ns p q r) (hm0 : 0 < m) (hm1 : m ≤ 1000) :
    ∃ v p' q' r', 0 ≤ v ∧ v < m ∧ DB ns p' q' r' ∧ F_law_draw [.obj 0, .int m] (hD ns p q r rest) = .ok (.int v) (hD ns p' q' r' rest) := by
  obtain ⟨b1, b2, b3, b4, b5⟩ := id B
  have fin : ∀ {p' q' r' : Int} {o2 : Option T}, DB ns p' q' r' → (mIf (mCmpT fEq (mOp fIx (mVar 0) (mC (.int 2))) (mC (.int 0))) (mIf (mCmpT fLt (mOp fIx (mVar 0) (mC (.int 1))) (mCb cLen (mCons (mOp fIx (mVar 0) (mC (.int 0))) mNil))) (mSeq (mSet 2 (mOp fIx (mOp fIx (mVar 0) (mC (.int 0))) (mOp fIx (mVar 0) (mC (.int 1))))) (mSeq (mLPut (mOp fAdd (mOp fIx (mVar 0) (mC (.int 1))) (mC (.int 1))) (mVar 0) (mC (.int 1))) (mIf (mCmpT fGe (mVar 2) (mOp fPow (mC (.int 10)) (mC (.int 18)))) (mLPut (mVar 2) (mVar 0) (mC (.int 2))) (mLPut (mOp fMod (mCb cInt (mCons (mOp fAdd (mOp fAdd (mOp fMul (mOp fIx (mVar 0) (mC (.int 3))) (mC (.int 48271))) (mOp fMul (mVar 2) (mC (.int 69621)))) (mC (.int 11))) mNil)) (mC (.int 2147483647))) (mVar 0) (mC (.int 3)))))) (mLPut (mOp fMod (mCb cInt (mCons (mOp fAdd (mOp fMul (mOp fIx (mVar 0) (mC (.int 3))) (mC (.int 48271))) (mC (.int 7))) mNil)) (mC (.int 2147483647))) (mVar 0) (mC (.int 3)))) mNx) [some (.obj 0), some (.int m), none, none] (hD ns p q r rest) = .nx [some (.obj 0), some (.int m), o2, none] (hD ns p' q' r' rest) →
      ∃ v p' q' r', 0 ≤ v ∧ v < m ∧ DB ns p' q' r' ∧ F_law_draw [.obj 0, .int m] (hD ns p q r rest) = .ok (.int v) (hD ns p' q' r' rest) := fun {p' q' r' o2} B' e => by
    obtain ⟨v, q2, h0, h1, B2, e2⟩ := draw_end (rest := rest) (o2 := o2) (o3 := none) B' hm0 hm1
    exact ⟨v, p', q2, r', h0, h1, B2, run_r ((seq_n e).trans e2)⟩
  by_cases hq : q = 0
  · subst hq
    have hc : fEq (.int 0) (.int 0) (hD ns p 0 r rest) = some true := rfl
    have e1 : fMul (.int r) (.int 48271) (hD ns p 0 r rest) = some (.int (r * 48271), hD ns p 0 r rest) := by
      show (if cMul r 48271 = true then some (T.int (r * 48271), hD ns p 0 r rest) else none) = _
      rw [cMul_ok (Nat.le_trans (bits_small (by omega)) (by decide)) (by decide)]
      rfl
    by_cases hp : p < ns.length
    · have hlt : fLt (.int p) (.int (ns.length : Int)) (hD ns p 0 r rest) = some true := by
        show some (decide (p < (ns.length : Int))) = some true
        rw [decide_eq_true hp]
      obtain ⟨c, hc0, ec⟩ := dC (h := hD ns p 0 r rest) b1 hp
      have e1' : fMul (.int r) (.int 48271) (hD ns (p + 1) 0 r rest) = some (.int (r * 48271), hD ns (p + 1) 0 r rest) := by
        show (if cMul r 48271 = true then some (T.int (r * 48271), hD ns (p + 1) 0 r rest) else none) = _
        rw [cMul_ok (Nat.le_trans (bits_small (by omega)) (by decide)) (by decide)]
        rfl
      have e2 : fMul (.int c) (.int 69621) (hD ns (p + 1) 0 r rest) = some (.int (c * 69621), hD ns (p + 1) 0 r rest) := by
        show (if cMul c 69621 = true then some (T.int (c * 69621), hD ns (p + 1) 0 r rest) else none) = _
        rw [cMul_ok (N.bits c hc0) (by decide)]
        rfl
      by_cases hb : c ≥ 10 ^ 18
      · have hg : fGe (.int c) (.int (10 ^ (18 : Int).toNat)) (hD ns (p + 1) 0 r rest) = some true := by
          exact congrArg some (decide_eq_true hb)
        refine fin (p' := p + 1) (q' := c) (r' := r) (o2 := some (.int c)) ⟨by omega, by omega, by omega, b4, b5⟩ ?_
        rw [if_t (cmpT_e (op_e (var_e rfl) c_e d2) c_e hc), if_t (cmpT_e (op_e (var_e rfl) c_e d1) (cb_e (cons_e (op_e (var_e rfl) c_e d0) nil_e) dL) hlt)]
        rw [seq_n (set_e (op_e (op_e (var_e rfl) c_e d0) (op_e (var_e rfl) c_e d1) ec))]
        rw [seq_n (lput_ok (op_e (op_e (var_e rfl) c_e d1) c_e rfl) (var_e rfl) c_e rfl (by exact ixN_1))]
        rw [if_t (cmpT_e (var_e rfl) (op_e c_e c_e rfl) hg)]
        rw [lput_ok (var_e rfl) (var_e rfl) c_e rfl (by exact ixN_2)]
        rfl
      · have hg : fGe (.int c) (.int (10 ^ (18 : Int).toNat)) (hD ns (p + 1) 0 r rest) = some false := by
          exact congrArg some (decide_eq_false hb)
        refine fin (p' := p + 1) (q' := 0) (r' := (r * 48271 + c * 69621 + 11) % 2147483647) (o2 := some (.int c)) ⟨by omega, by omega, by omega, by omega, by omega⟩ ?_
        rw [if_t (cmpT_e (op_e (var_e rfl) c_e d2) c_e hc), if_t (cmpT_e (op_e (var_e rfl) c_e d1) (cb_e (cons_e (op_e (var_e rfl) c_e d0) nil_e) dL) hlt)]
        rw [seq_n (set_e (op_e (op_e (var_e rfl) c_e d0) (op_e (var_e rfl) c_e d1) ec))]
        rw [seq_n (lput_ok (op_e (op_e (var_e rfl) c_e d1) c_e rfl) (var_e rfl) c_e rfl (by exact ixN_1))]
        rw [if_f (cmpT_e (var_e rfl) (op_e c_e c_e rfl) hg)]
        rw [lput_ok (op_e (cb_e (cons_e (op_e (op_e (op_e (op_e (var_e rfl) c_e d3) c_e e1') (op_e (var_e rfl) c_e e2) rfl) c_e rfl) nil_e) rfl) c_e rfl) (var_e rfl) c_e rfl (by exact ixN_3)]
        rfl
    · have hlt : fLt (.int p) (.int (ns.length : Int)) (hD ns p 0 r rest) = some false := by
        show some (decide (p < (ns.length : Int))) = some false
        rw [decide_eq_false hp]
      refine fin (p' := p) (q' := 0) (r' := (r * 48271 + 7) % 2147483647) (o2 := none) ⟨by omega, by omega, by omega, by omega, by omega⟩ ?_
      rw [if_t (cmpT_e (op_e (var_e rfl) c_e d2) c_e hc), if_f (cmpT_e (op_e (var_e rfl) c_e d1) (cb_e (cons_e (op_e (var_e rfl) c_e d0) nil_e) dL) hlt)]
      rw [lput_ok (op_e (cb_e (cons_e (op_e (op_e (op_e (var_e rfl) c_e d3) c_e e1) c_e rfl) nil_e) rfl) c_e rfl) (var_e rfl) c_e rfl (by exact ixN_3)]
      rfl
  · have hc : fEq (.int q) (.int 0) (hD ns p q r rest) = some false := by
      show some (decide (q = 0)) = some false
      rw [decide_eq_false hq]
    refine fin B (o2 := none) ?_
    rw [if_f (cmpT_e (op_e (var_e rfl) c_e d2) c_e hc)]
    rfl
end M
namespace M
open PySem L2
theorem szl : sizeLine = 16777216 := PySem.sizeLine_eq
theorem le_szl {n : Nat} (h : n ≤ 16777216) : n ≤ sizeLine := by rw [szl]; exact h
theorem lst_e {m : EL} {env : Env} {h h1 : AH} {ts : List T} (e1 : m env h = .ok ts h1) (hl : ts.length ≤ 16777216) : mLst m env h = .ok (.obj h1.length) (h1 ++ [.lst ts]) := by
  unfold mLst
  simp only [e1, Out.bind, if_pos (le_szl hl)]
theorem lv_e {m : EL} {env : Env} {h h1 : AH} {ts : List T} (e1 : m env h = .ok ts h1) (hl : ts.length ≤ 16777216) : mLv m env h = .ok (.lv ts) h1 := by
  unfold mLv
  simp only [e1, Out.bind, if_pos (le_szl hl)]
theorem tup_e {m : EL} {env : Env} {h h1 : AH} {ts : List T} (e1 : m env h = .ok ts h1) (hl : ts.length ≤ 16777216) : mTup m env h = .ok (.tup ts) h1 := by
  unfold mTup
  simp only [e1, Out.bind, if_pos (le_szl hl)]
theorem call_e {n : Nat} {F : FM} {m : EL} {env : Env} {h h1 h2 : AH} {ts : List T} {t : T} (e1 : m env h = .ok ts h1) (hn : ts.length = n) (e2 : F ts h1 = .ok t h2) : mCall n F m env h = .ok t h2 := by
  unfold mCall
  simp only [e1, Out.bind, if_pos hn, e2, Out.noX]
theorem callX_e {n : Nat} {F : FM} {m : EL} {env : Env} {h h1 : AH} {ts : List T} {o : Out T} (e1 : m env h = .ok ts h1) (hn : ts.length = n) (e2 : F ts h1 = o) : mCallX n F m env h = o := by
  unfold mCallX
  simp only [e1, Out.bind, if_pos hn, e2]
theorem lt2 {v : Int} (h0 : 0 ≤ v) (h1 : v < 2) : v = 0 ∨ v = 1 := by omega
/-- [a, b][draw(draws, 2)] -/
theorem pick_ok {ns : List Int} (N : NB ns) {p q r : Int} {rest : AH} {env : Env} (B : DB ns p q r) (a b : T) {i : Nat} (hv : env[i]? = some (some (.obj 0))) : ∃ p' q' r' x, DB ns p' q' r' ∧ (x = a ∨ x = b) ∧
    mOp fIx (mLv (mCons (mC a) (mCons (mC b) mNil))) (mCall 2 F_law_draw (mCons (mVar i) (mCons (mC (.int 2)) mNil))) env (hD ns p q r rest) = .ok x (hD ns p' q' r' rest) := by
  obtain ⟨v, p', q', r', h0, h1, B', e⟩ := draw_ok (m := 2) (rest := rest) N B (by decide) (by decide)
  have hl : [a, b].length ≤ 16777216 := by show 2 ≤ 16777216; decide
  rcases lt2 h0 h1 with e0 | e0
  · subst e0
    exact ⟨p', q', r', a, B', .inl rfl, op_e (lv_e (cons_e c_e (cons_e c_e nil_e)) hl) (call_e (cons_e (var_e hv) (cons_e c_e nil_e)) rfl e) rfl⟩
  · subst e0
    exact ⟨p', q', r', b, B', .inr rfl, op_e (lv_e (cons_e c_e (cons_e c_e nil_e)) hl) (call_e (cons_e (var_e hv) (cons_e c_e nil_e)) rfl e) rfl⟩
theorem parts_ok {ns : List Int} (N : NB ns) {p q r : Int} {rest : AH} (B : DB ns p q r) : ∃ p' q' r' x1 x2 x3 x4 x5, DB ns p' q' r' ∧ (x1 = T.int 1 ∨ x1 = .int 2) ∧ (x2 = T.str "lost" ∨ x2 = .str "back") ∧ (x3 = T.str "empty" ∨ x3 = .str "any") ∧ (x4 = T.str "as was" ∨ x4 = .str "empty") ∧ (x5 = T.str "as was" ∨ x5 = .str "empty") ∧
    F_law_parts [.obj 0] (hD ns p q r rest) = .ok (.obj (rest.length + 1)) (hD ns p' q' r' (rest ++ [.lst [x1, x2, x3, x4, x5]])) := by
  obtain ⟨v, p1, q1, r1, h0, h1, B1, e1⟩ := draw_ok (m := 2) (rest := rest) N B (by decide) (by decide)
  obtain ⟨p2, q2, r2, x2, B2, hx2, e2⟩ := pick_ok (i := 0) (env := [some (.obj 0), none]) (rest := rest) N B1 (.str "lost") (.str "back") rfl
  obtain ⟨p3, q3, r3, x3, B3, hx3, e3⟩ := pick_ok (i := 0) (env := [some (.obj 0), none]) (rest := rest) N B2 (.str "empty") (.str "any") rfl
  obtain ⟨p4, q4, r4, x4, B4, hx4, e4⟩ := pick_ok (i := 0) (env := [some (.obj 0), some (.lv [.int (1 + v), x2, x3])]) (rest := rest) N B3 (.str "as was") (.str "empty") rfl
  obtain ⟨p5, q5, r5, x5, B5, hx5, e5⟩ := pick_ok (i := 0) (env := [some (.obj 0), some (.lv [.int (1 + v), x2, x3])]) (rest := rest) N B4 (.str "as was") (.str "empty") rfl
  refine ⟨p5, q5, r5, .int (1 + v), x2, x3, x4, x5, B5, ?_, hx2, hx3, hx4, hx5, ?_⟩
  · rcases lt2 h0 h1 with e | e
    · subst e; exact .inl rfl
    · subst e; exact .inr rfl
  · refine run_r ?_
    unfold m_law_parts
    refine (seq_n (set_e (lv_e (cons_e (op_e c_e (call_e (cons_e (var_e rfl) (cons_e c_e nil_e)) rfl e1) rfl) (cons_e e2 (cons_e e3 nil_e))) (by show 3 ≤ 16777216; decide)))).trans ?_
    refine ret_e (op_e (var_e rfl) (lv_e (cons_e e4 (cons_e e5 nil_e)) (by show 2 ≤ 16777216; decide)) ?_)
    show (if 5 ≤ sizeLine then some (T.obj (rest.length + 1), hD ns p5 q5 r5 rest ++ [.lst [.int (1 + v), x2, x3, x4, x5]]) else none) = _
    rw [if_pos (le_szl (by decide))]
    rfl
/-- the values that may stand in a part -/
def Sv : List T := [.int 1, .int 2, .str "lost", .str "back", .str "empty", .str "any", .str "as was", .non, .int 0, .int 3, .bl true, .str "", .tup [.str "lost"]]
def goodP (k : Nat) (x : T) : Bool := match pure0 2 m_is_choice [x, chs.getD k .non] with
  | .val (.bl b) => b
  | _ => false
theorem choice_ok {x : T} (hx : x ∈ Sv) {k : Nat} (hk : k < 5) (h : AH) : F_is_choice [x, chs.getD k .non] h = .ok (.bl (goodP k x)) h := by
  have key : ∀ x ∈ Sv, ∀ k ∈ List.range 5, (match pure0 2 m_is_choice [x, chs.getD k .non] with | .val (.bl b) => true | _ => false) = true := by
    have t1 : (Sv.all fun x => (List.range 5).all fun k => match pure0 2 m_is_choice [x, chs.getD k .non] with
      | .val (.bl b) => true
      | _ => false) = true := by rfl
    intro x hx k hk
    exact List.all_eq_true.mp (List.all_eq_true.mp t1 x hx) k hk
  have z := key x hx k (List.mem_range.mpr hk)
  unfold F_is_choice pureF goodP
  split at z
  · next b hb =>
    rw [hb]
    rfl
  · cases z
/-- the first wrong one -/
def wrong : Nat → List T → Option T
  | _, [] => none
  | k, x :: xs => if goodP k x = true then wrong (k + 1) xs else nms[k]?
theorem callB {F : FM} {m : EL} {env : Env} {h : AH} {ts : List T} {b : Bool} (e1 : m env h = .ok ts h) (hn : ts.length = 2) (e2 : F ts h = .ok (.bl b) h) : mNotB (mTru (mCall 2 F m)) env h = .ok (!b) h := by
  unfold mNotB mTru
  rw [call_e e1 hn e2]
  cases b <;> rfl
theorem tst_ok {x : T} (hx : x ∈ Sv) {k : Nat} (hk : k < 5) (h : AH) : tst x (chs.getD k .non) h = .ok (!goodP k x) h := callB (F := F_is_choice) (m := mCons (mVar 0) (mCons (mVar 1) mNil)) (env := [some x, some (chs.getD k .non)]) rfl rfl (choice_ok hx hk h)
theorem ruleR_ok {all : List T} {h : AH} : ∀ {xs : List T} {k : Nat}, (∀ x ∈ xs, x ∈ Sv) → k + xs.length = 5 → ruleR all k xs h = match wrong k xs with
    | some t => .ex ⟨0, some t⟩ h
    | none => .ok (.ins 0 all) h
  | [], _, _, _ => rfl
  | x :: xs, k, hs, hl => by
    rw [List.length_cons] at hl
    simp only [ruleR, wrong]
    rw [tst_ok (hs x List.mem_cons_self) (by omega) h]
    cases goodP k x with
    | false =>
      have : k < nms.length := by show k < 5; omega
      rw [List.getElem?_eq_getElem this, List.getD_eq_getElem?_getD, List.getElem?_eq_getElem this]
      rfl
    | true => exact ruleR_ok (fun y hy => hs y (List.mem_cons_of_mem _ hy)) (by omega)
theorem rule_ok {x1 x2 x3 x4 x5 : T} (hs : ∀ x ∈ [x1, x2, x3, x4, x5], x ∈ Sv) (h : AH) : F_Rule [x1, x2, x3, x4, x5] h = match wrong 0 [x1, x2, x3, x4, x5] with
    | some t => .ex ⟨0, some t⟩ h
    | none => .ok (.ins 0 [x1, x2, x3, x4, x5]) h := (rule_gen .non h).trans (ruleR_ok hs rfl)
/-- does the part stand in the own list, and is it no truth value -/
theorem due_t {x : T} (hx : x ∈ Sv) {k : Nat} (hk : k < 5) {xs : List T} (hxs : xs[k]? = some x) (h5 : xs.length = 5) {d : MO} {rest : AH} {o3 o4 : Option T} {nmv : T} :
    mSet 3 (mAndV (mNotV (mIsi "bool" (mOp fIx (mVar 0) (mVar 2)))) (mCb cAny (mCons (mComp [4] (sVal (mOp fIx (mCall 0 F_law_choices mNil) (mVar 2))) (gN 4) mYes (mCmp fEq (mOp fIx (mVar 0) (mVar 2)) (mVar 4))) mNil))) [some (.obj 1), some nmv, some (.int k), o3, o4] (d :: .lst xs :: rest) =
      .nx [some (.obj 1), some nmv, some (.int k), some (.bl (goodP k x)), o4] (d :: .lst xs :: rest) := by
  match xs, h5 with
  | [y0, y1, y2, y3, y4], _ =>
    have sv : x = .int 1 ∨ x = .int 2 ∨ x = .str "lost" ∨ x = .str "back" ∨ x = .str "empty" ∨ x = .str "any" ∨ x = .str "as was" ∨ x = .non ∨ x = .int 0 ∨ x = .int 3 ∨ x = .bl true ∨ x = .str "" ∨ x = .tup [.str "lost"] := by simpa [Sv] using hx
    rcases (show k = 0 ∨ k = 1 ∨ k = 2 ∨ k = 3 ∨ k = 4 by omega) with e | e | e | e | e
    · subst e
      have q : y0 = x := Option.some.inj hxs
      subst q
      rcases sv with e | e | e | e | e | e | e | e | e | e | e | e | e <;> (subst e; rfl)
    · subst e
      have q : y1 = x := Option.some.inj hxs
      subst q
      rcases sv with e | e | e | e | e | e | e | e | e | e | e | e | e <;> (subst e; rfl)
    · subst e
      have q : y2 = x := Option.some.inj hxs
      subst q
      rcases sv with e | e | e | e | e | e | e | e | e | e | e | e | e <;> (subst e; rfl)
    · subst e
      have q : y3 = x := Option.some.inj hxs
      subst q
      rcases sv with e | e | e | e | e | e | e | e | e | e | e | e | e <;> (subst e; rfl)
    · subst e
      have q : y4 = x := Option.some.inj hxs
      subst q
      rcases sv with e | e | e | e | e | e | e | e | e | e | e | e | e <;> (subst e; rfl)
end M
namespace M
open PySem L2
/-- the last line: all 32 against all 32 -/
theorem last_ok {x1 x2 x3 x4 x5 y1 y2 y3 y4 y5 : T} (h1 : x1 = T.int 1 ∨ x1 = .int 2) (h2 : x2 = T.str "lost" ∨ x2 = .str "back") (h3 : x3 = T.str "empty" ∨ x3 = .str "any") (h4 : x4 = T.str "as was" ∨ x4 = .str "empty") (h5 : x5 = T.str "as was" ∨ x5 = .str "empty")
    (k1 : y1 = T.int 1 ∨ y1 = .int 2) (k2 : y2 = T.str "lost" ∨ y2 = .str "back") (k3 : y3 = T.str "empty" ∨ y3 = .str "any") (k4 : y4 = T.str "as was" ∨ y4 = .str "empty") (k5 : y5 = T.str "as was" ∨ y5 = .str "empty") {a0 a3 a4 a5 a7 : Option T} {d : MO} :
    mRet (mAndV (mCmp fEq (mCall 1 F_law_fields (mCons (mVar 6) mNil)) (mVar 2)) (mCmp fEq (mInsEq 0 F_Rule_eq (mVar 6) (mCallX 1 F_law_rule (mCons (mVar 8) mNil))) (mCmp fEq (mVar 2) (mVar 8)))) [a0, some (.obj 0), some (.obj 1), a3, a4, a5, some (.ins 0 [x1, x2, x3, x4, x5]), a7, some (.obj 2), none] [d, .lst [x1, x2, x3, x4, x5], .lst [y1, y2, y3, y4, y5]] =
      .rt (.bl true) [d, .lst [x1, x2, x3, x4, x5], .lst [y1, y2, y3, y4, y5]] := by
  rcases h1 with h | h <;> subst h <;> rcases h2 with h | h <;> subst h <;> rcases h3 with h | h <;> subst h <;> rcases h4 with h | h <;> subst h <;> rcases h5 with h | h <;> subst h <;>
    rcases k1 with h | h <;> subst h <;> rcases k2 with h | h <;> subst h <;> rcases k3 with h | h <;> subst h <;> rcases k4 with h | h <;> subst h <;> rcases k5 with h | h <;> subst h <;> rfl
end M
namespace M
open PySem L2
theorem turn_due {x : T} (hx : x ∈ Sv) {k : Nat} (hk : k < 5) {xs : List T} (hxs : xs[k]? = some x) (h5 : xs.length = 5) {d : MO} {rest : AH} {o2 o3 o4 : Option T} {K : Env → AH → OutS} :
    turnS (gN 2) (mSeq (mSet 3 (mAndV (mNotV (mIsi "bool" (mOp fIx (mVar 0) (mVar 2)))) (mCb cAny (mCons (mComp [4] (sVal (mOp fIx (mCall 0 F_law_choices mNil) (mVar 2))) (gN 4) mYes (mCmp fEq (mOp fIx (mVar 0) (mVar 2)) (mVar 4))) mNil)))) (mIf (mNotB (mTru (mVar 3))) (mRet (mOp fIx (mVar 1) (mVar 2))) mNx)) (.int k) [some (.obj 1), some (.lv nms), o2, o3, o4] (d :: .lst xs :: rest) K =
      if goodP k x = true then K [some (.obj 1), some (.lv nms), some (.int k), some (.bl true), o4] (d :: .lst xs :: rest) else .rt (nms.getD k .non) (d :: .lst xs :: rest) := by
  have e := due_t hx hk hxs h5 (d := d) (rest := rest) (o3 := o3) (o4 := o4) (nmv := .lv nms)
  show (mSeq _ _ [some (.obj 1), some (.lv nms), some (.int k), o3, o4] (d :: .lst xs :: rest)).loop K = _
  rw [seq_n e]
  cases goodP k x with
  | true => rfl
  | false =>
    rcases (show k = 0 ∨ k = 1 ∨ k = 2 ∨ k = 3 ∨ k = 4 by omega) with e | e | e | e | e <;> (subst e; rfl)
theorem due_ok {x1 x2 x3 x4 x5 : T} (hs : ∀ x ∈ [x1, x2, x3, x4, x5], x ∈ Sv) {d : MO} {rest : AH} : F_law_due [.obj 1] (d :: .lst [x1, x2, x3, x4, x5] :: rest) = .ok ((wrong 0 [x1, x2, x3, x4, x5]).getD .non) (d :: .lst [x1, x2, x3, x4, x5] :: rest) := by
  have e0 : F_law_due [.obj 1] (d :: .lst [x1, x2, x3, x4, x5] :: rest) = match (loopS (.fix [.int (0 : Nat), .int (1 : Nat), .int (2 : Nat), .int (3 : Nat), .int (4 : Nat)]) (gN 2) (mSeq (mSet 3 (mAndV (mNotV (mIsi "bool" (mOp fIx (mVar 0) (mVar 2)))) (mCb cAny (mCons (mComp [4] (sVal (mOp fIx (mCall 0 F_law_choices mNil) (mVar 2))) (gN 4) mYes (mCmp fEq (mOp fIx (mVar 0) (mVar 2)) (mVar 4))) mNil)))) (mIf (mNotB (mTru (mVar 3))) (mRet (mOp fIx (mVar 1) (mVar 2))) mNx)) 6 0 [some (.obj 1), some (.lv nms), none, none, none] (d :: .lst [x1, x2, x3, x4, x5] :: rest)).seq (mRet (mC .non)) with
    | .nx _ h' => .ok .non h' | .rt t h' => .ok t h' | .ex x _ h' => .ex x h' | _ => .bad := by rfl
  rw [e0]
  simp only [wrong]
  rw [loop_t rfl, turn_due (k := 0) (hs x1 (by simp)) (by decide) rfl rfl]
  cases goodP 0 x1 with
  | false => rfl
  | true =>
    simp only [if_true]
    rw [loop_t rfl, turn_due (k := 1) (hs x2 (by simp)) (by decide) rfl rfl]
    cases goodP 1 x2 with
    | false => rfl
    | true =>
      simp only [if_true]
      rw [loop_t rfl, turn_due (k := 2) (hs x3 (by simp)) (by decide) rfl rfl]
      cases goodP 2 x3 with
      | false => rfl
      | true =>
        simp only [if_true]
        rw [loop_t rfl, turn_due (k := 3) (hs x4 (by simp)) (by decide) rfl rfl]
        cases goodP 3 x4 with
        | false => rfl
        | true =>
          simp only [if_true]
          rw [loop_t rfl, turn_due (k := 4) (hs x5 (by simp)) (by decide) rfl rfl]
          cases goodP 4 x5 with
          | false => rfl
          | true => rfl
theorem atI_in {xs : List T} {v : Int} (h0 : 0 ≤ v) (h1 : v < xs.length) : ∃ x, x ∈ xs ∧ atI xs v = some x := by
  have hl : v.toNat < xs.length := by omega
  refine ⟨xs[v.toNat], List.getElem_mem hl, ?_⟩
  unfold atI ixN
  rw [if_pos h0, if_pos h1]
  show xs[v.toNat]? = _
  rw [List.getElem?_eq_getElem hl]
theorem ixN_in {n : Nat} {v : Int} (h0 : 0 ≤ v) (h1 : v < n) : ∃ j, j < n ∧ ixN n v = some j := by
  unfold ixN
  rw [if_pos h0, if_pos h1]
  exact ⟨v.toNat, by omega, rfl⟩
abbrev odd : List T := [.non, .int 0, .int 3, .bl true, .str "any", .str "back", .str "as was", .str "empty", .str "lost", .str "", .tup [.str "lost"], .int 1]
theorem odd_sv {x : T} (h : x ∈ odd) : x ∈ Sv := by
  simp only [odd, Sv, List.mem_cons, List.mem_nil_iff, or_false] at h ⊢
  rcases h with h | h | h | h | h | h | h | h | h | h | h | h <;> simp [h]
abbrev body3 : SM := (mSeq (mSet 4 (mLv (mCons (mC .non) (mCons (mC (.int 0)) (mCons (mC (.int 3)) (mCons (mC (.bl true)) (mCons (mC (.str "any")) (mCons (mC (.str "back")) (mCons (mC (.str "as was")) (mCons (mC (.str "empty")) (mCons (mC (.str "lost")) (mCons (mC (.str "")) (mCons (mTup (mCons (mC (.str "lost")) mNil)) (mCons (mC (.int 1)) mNil)))))))))))))) (mLPut (mOp fIx (mVar 4) (mCall 2 F_law_draw (mCons (mVar 1) (mCons (mCb cLen (mCons (mVar 4) mNil)) mNil)))) (mVar 2) (mCall 2 F_law_draw (mCons (mVar 1) (mCons (mC (.int 5)) mNil)))))
theorem turn3 {ns : List Int} (N : NB ns) {a0 a3 a4 : Option T} {p q r : Int} {xs : List T} (B : DB ns p q r) (h5 : xs.length = 5) (hs : ∀ x ∈ xs, x ∈ Sv) : ∃ p' q' r' xs', DB ns p' q' r' ∧ xs'.length = 5 ∧ (∀ x ∈ xs', x ∈ Sv) ∧
    body3 [a0, some (.obj 0), some (.obj 1), a3, a4, none, none, none, none, none] (hD ns p q r [.lst xs]) = .nx [a0, some (.obj 0), some (.obj 1), a3, some (.lv odd), none, none, none, none, none] (hD ns p' q' r' [.lst xs']) := by
  obtain ⟨v, p1, q1, r1, h0, h1, B1, e1⟩ := draw_ok (m := 12) (rest := [.lst xs]) N B (by decide) (by decide)
  obtain ⟨x, hx, ex⟩ := atI_in (xs := odd) h0 h1
  obtain ⟨v2, p2, q2, r2, h20, h21, B2, e2⟩ := draw_ok (m := 5) (rest := [.lst xs]) N B1 (by decide) (by decide)
  obtain ⟨j, hj, ej⟩ := ixN_in (n := 5) h20 h21
  refine ⟨p2, q2, r2, xs.set j x, B2, by rw [List.length_set, h5], fun y hy => ?_, ?_⟩
  · rcases List.mem_or_eq_of_mem_set hy with z | z
    · exact hs y z
    · rw [z]; exact odd_sv hx
  · have s1 : mSet 4 (mLv (mCons (mC .non) (mCons (mC (.int 0)) (mCons (mC (.int 3)) (mCons (mC (.bl true)) (mCons (mC (.str "any")) (mCons (mC (.str "back")) (mCons (mC (.str "as was")) (mCons (mC (.str "empty")) (mCons (mC (.str "lost")) (mCons (mC (.str "")) (mCons (mTup (mCons (mC (.str "lost")) mNil)) (mCons (mC (.int 1)) mNil))))))))))))) [a0, some (.obj 0), some (.obj 1), a3, a4, none, none, none, none, none] (hD ns p q r [.lst xs]) = .nx [a0, some (.obj 0), some (.obj 1), a3, some (.lv odd), none, none, none, none, none] (hD ns p q r [.lst xs]) := by rfl
    have ix : fIx (.lv odd) (.int v) (hD ns p1 q1 r1 [.lst xs]) = some (x, hD ns p1 q1 r1 [.lst xs]) := by
      unfold fIx
      simp only [itemsT, ex]
    refine (seq_n s1).trans ((lput_ok (ts := xs) (j := j) (op_e (var_e rfl) (call_e (cons_e (var_e rfl) (cons_e (cb_e (cons_e (var_e rfl) nil_e) rfl) nil_e)) rfl e1) ix) (var_e rfl) (call_e (cons_e (var_e rfl) (cons_e c_e nil_e)) rfl e2) rfl (by rw [h5]; exact ej)).trans rfl)
theorem loop3 {ns : List Int} (N : NB ns) {a0 : Option T} {ts : List T} : ∀ (m i : Nat), i + m = ts.length → ∀ {a3 a4 : Option T} {p q r : Int} {xs : List T}, DB ns p q r → xs.length = 5 → (∀ x ∈ xs, x ∈ Sv) →
    ∃ p' q' r' xs' b3 b4, DB ns p' q' r' ∧ xs'.length = 5 ∧ (∀ x ∈ xs', x ∈ Sv) ∧ loopS (.fix ts) (gN 3) body3 (m + 1) i [a0, some (.obj 0), some (.obj 1), a3, a4, none, none, none, none, none] (hD ns p q r [.lst xs]) =
      .nx [a0, some (.obj 0), some (.obj 1), b3, b4, none, none, none, none, none] (hD ns p' q' r' [.lst xs'])
  | 0, i, hi, a3, a4, p, q, r, xs, B, h5, hs => ⟨p, q, r, xs, a3, a4, B, h5, hs, loop_e (by
      show some ts[i]? = some none
      rw [List.getElem?_eq_none (show ts.length ≤ i by omega)])⟩
  | m + 1, i, hi, a3, a4, p, q, r, xs, B, h5, hs => by
    have hl : i < ts.length := by omega
    obtain ⟨p1, q1, r1, xs1, B1, h51, hs1, e1⟩ := turn3 (a0 := a0) (a3 := some ts[i]) (a4 := a4) N B h5 hs
    obtain ⟨p2, q2, r2, xs2, b3, b4, B2, h52, hs2, e2⟩ := loop3 (a0 := a0) (ts := ts) N m (i + 1) (by omega) (a3 := some ts[i]) (a4 := some (.lv odd)) B1 h51 hs1
    refine ⟨p2, q2, r2, xs2, b3, b4, B2, h52, hs2, ?_⟩
    rw [loop_t (t := ts[i]) (by show some ts[i]? = _; rw [List.getElem?_eq_getElem hl])]
    show (body3 [a0, some (.obj 0), some (.obj 1), some ts[i], a4, none, none, none, none, none] (hD ns p q r [.lst xs])).loop _ = _
    rw [e1]
    exact e2
theorem good_sv {x : T} {a b : T} (h : x = a ∨ x = b) (ha : a ∈ Sv) (hb : b ∈ Sv) : x ∈ Sv := by
  rcases h with h | h <;> (subst h; assumption)
theorem tryF_n {c i j : Nat} {cs : List (Nat × Bool)} {body : SM} {env env1 : Env} {h h1 : AH} (e : body env h = .nx env1 h1) : mTryF c cs i j body env h = .nx env1 h1 := by
  unfold mTryF
  rw [e]
theorem law_rule_ok {x1 x2 x3 x4 x5 : T} (hs : ∀ x ∈ [x1, x2, x3, x4, x5], x ∈ Sv) {n : Nat} {h : AH} (e : h[n]? = some (.lst [x1, x2, x3, x4, x5])) : F_law_rule [.obj n] h = match wrong 0 [x1, x2, x3, x4, x5] with
    | some t => .ex ⟨0, some t⟩ h
    | none => .ok (.ins 0 [x1, x2, x3, x4, x5]) h := by
  have q0 : (mOp fIx (mVar 0) (mC (.int 0))) [some (.obj n)] h = .ok x1 h := op_e (var_e rfl) c_e (fIx_obj e atI_0)
  have q1 : (mOp fIx (mVar 0) (mC (.int 1))) [some (.obj n)] h = .ok x2 h := op_e (var_e rfl) c_e (fIx_obj e atI_1)
  have q2 : (mOp fIx (mVar 0) (mC (.int 2))) [some (.obj n)] h = .ok x3 h := op_e (var_e rfl) c_e (fIx_obj e atI_2)
  have q3 : (mOp fIx (mVar 0) (mC (.int 3))) [some (.obj n)] h = .ok x4 h := op_e (var_e rfl) c_e (fIx_obj e atI_3)
  have q4 : (mOp fIx (mVar 0) (mC (.int 4))) [some (.obj n)] h = .ok x5 h := op_e (var_e rfl) c_e (fIx_obj e atI_4)
  have e2 : mMakeX 5 F_Rule (mCons (mOp fIx (mVar 0) (mC (.int 0))) (mCons (mOp fIx (mVar 0) (mC (.int 1))) (mCons (mOp fIx (mVar 0) (mC (.int 2))) (mCons (mOp fIx (mVar 0) (mC (.int 3))) (mCons (mOp fIx (mVar 0) (mC (.int 4))) mNil))))) [some (.obj n)] h = F_Rule [x1, x2, x3, x4, x5] h := by
    unfold mMakeX
    rw [cons_e q0 (cons_e q1 (cons_e q2 (cons_e q3 (cons_e q4 nil_e))))]
    rfl
  show runB 1 m_law_rule [.obj n] h = _
  unfold runB m_law_rule mRet
  show (match ((mMakeX 5 F_Rule (mCons (mOp fIx (mVar 0) (mC (.int 0))) (mCons (mOp fIx (mVar 0) (mC (.int 1))) (mCons (mOp fIx (mVar 0) (mC (.int 2))) (mCons (mOp fIx (mVar 0) (mC (.int 3))) (mCons (mOp fIx (mVar 0) (mC (.int 4))) mNil))))) [some (.obj n)] h).st [some (.obj n)] fun t h1 => .rt t h1) with
    | .nx _ h' => Out.ok T.non h' | .rt t h' => .ok t h' | .ex x _ h' => .ex x h' | _ => .bad) = _
  rw [e2, rule_ok hs]
  cases wrong 0 [x1, x2, x3, x4, x5] <;> rfl
theorem sv_cases {x : T} (hx : x ∈ Sv) : x = .int 1 ∨ x = .int 2 ∨ x = .str "lost" ∨ x = .str "back" ∨ x = .str "empty" ∨ x = .str "any" ∨ x = .str "as was" ∨ x = .non ∨ x = .int 0 ∨ x = .int 3 ∨ x = .bl true ∨ x = .str "" ∨ x = .tup [.str "lost"] := by simpa [Sv] using hx
theorem good0 {x : T} (hx : x ∈ Sv) (hg : goodP 0 x = true) : x = T.int 1 ∨ x = .int 2 := by
  rcases sv_cases hx with e | e | e | e | e | e | e | e | e | e | e | e | e <;> subst e <;> first
    | exact .inl rfl
    | exact .inr rfl
    | exact absurd (show false = true from hg) Bool.false_ne_true
theorem good1 {x : T} (hx : x ∈ Sv) (hg : goodP 1 x = true) : x = T.str "lost" ∨ x = .str "back" := by
  rcases sv_cases hx with e | e | e | e | e | e | e | e | e | e | e | e | e <;> subst e <;> first
    | exact .inl rfl
    | exact .inr rfl
    | exact absurd (show false = true from hg) Bool.false_ne_true
theorem good2 {x : T} (hx : x ∈ Sv) (hg : goodP 2 x = true) : x = T.str "empty" ∨ x = .str "any" := by
  rcases sv_cases hx with e | e | e | e | e | e | e | e | e | e | e | e | e <;> subst e <;> first
    | exact .inl rfl
    | exact .inr rfl
    | exact absurd (show false = true from hg) Bool.false_ne_true
theorem good3 {x : T} (hx : x ∈ Sv) (hg : goodP 3 x = true) : x = T.str "as was" ∨ x = .str "empty" := by
  rcases sv_cases hx with e | e | e | e | e | e | e | e | e | e | e | e | e <;> subst e <;> first
    | exact .inl rfl
    | exact .inr rfl
    | exact absurd (show false = true from hg) Bool.false_ne_true
theorem good4 {x : T} (hx : x ∈ Sv) (hg : goodP 4 x = true) : x = T.str "as was" ∨ x = .str "empty" := by
  rcases sv_cases hx with e | e | e | e | e | e | e | e | e | e | e | e | e <;> subst e <;> first
    | exact .inl rfl
    | exact .inr rfl
    | exact absurd (show false = true from hg) Bool.false_ne_true
theorem wrong_str : ∀ {xs : List T} {k : Nat} {t : T}, wrong k xs = some t → ∃ s, t = .str s
  | [], _, _, e => by cases e
  | x :: xs, k, t, e => by
    unfold wrong at e
    split at e
    · exact wrong_str e
    · have hm := List.mem_of_getElem? e
      simp only [nms, List.mem_cons, List.mem_nil_iff, or_false] at hm
      rcases hm with h | h | h | h | h <;> exact ⟨_, h⟩
theorem wrong_none {x1 x2 x3 x4 x5 : T} (e : wrong 0 [x1, x2, x3, x4, x5] = none) : goodP 0 x1 = true ∧ goodP 1 x2 = true ∧ goodP 2 x3 = true ∧ goodP 3 x4 = true ∧ goodP 4 x5 = true := by
  simp only [wrong] at e
  cases g0 : goodP 0 x1 with
  | false => rw [g0] at e; cases e
  | true =>
    cases g1 : goodP 1 x2 with
    | false => rw [g0, g1] at e; cases e
    | true =>
      cases g2 : goodP 2 x3 with
      | false => rw [g0, g1, g2] at e; cases e
      | true =>
        cases g3 : goodP 3 x4 with
        | false => rw [g0, g1, g2, g3] at e; cases e
        | true =>
          cases g4 : goodP 4 x5 with
          | false => rw [g0, g1, g2, g3, g4] at e; cases e
          | true => exact ⟨rfl, rfl, rfl, rfl, rfl⟩
theorem t3 (a b c d e f g : Option T) (h : AH) : mIf (mCmpT fNe (mComp [9] (sVal (mCall 0 F_all_rules mNil)) (gN 9) mYes (mCall 1 F_law_fields (mCons (mVar 9) mNil))) (mCall 0 F_law_every mNil)) (mRet (mC (.bl false))) mNx [a, b, c, d, e, f, g, none, none, none] h = .nx [a, b, c, d, e, f, g, none, none, none] h := by rfl
theorem rng1_e {m : EL} {env : Env} {h h1 : AH} {j : Int} (e : m env h = .ok [.int j] h1) (h0 : 0 ≤ j) (h9 : j < 1000000) : sRng1 m env h = .ok (.fix (rngT 0 j.toNat)) h1 := by
  unfold sRng1
  rw [e]
  show (if -(2 ^ 62) ≤ j ∧ j < 2 ^ 62 then Out.ok (Src.fix (rngT 0 j.toNat)) h1 else .bad) = _
  rw [if_pos (by omega)]
theorem for_e {g : T → Env → Option Env} {s : Env → AH → Out Src} {body : SM} {env : Env} {h h1 : AH} {src : Src} {o : OutS} (e : s env h = .ok src h1) (e2 : loopS src g body src.fuel 0 env h1 = o) : mFor g s body env h = o := by
  unfold mFor
  rw [e]
  exact e2
theorem tryF_x {c i j : Nat} {cs : List (Nat × Bool)} {body : SM} {env env1 : Env} {h h1 : AH} {t : T} (e : body env h = .ex ⟨c, some t⟩ env1 h1) (hc : cs.lookup c = some true) (hi : i < env1.length) : mTryF c cs i j body env h = .nx ((env1.set j (some t)).set i none) h1 := by
  unfold mTryF
  rw [e]
  dsimp only
  rw [hc]
  dsimp only
  rw [if_pos ⟨rfl, hi⟩]
theorem law_true (ns : List Int) (hl : ns.length ≤ 63) (hb : ∀ z ∈ ns, Builtin.Int.intBits z ≤ 1048576) : ∃ h', F_law [.scr ns] [] = .ok (.bl true) h' := by
  have N : NB ns := ⟨hl, hb⟩
  have B0 : DB ns 0 0 7 := ⟨by omega, by omega, by omega, by omega, by omega⟩
  have s1 : mSet 1 (mCall 1 F_law_begin (mCons (mVar 0) mNil)) [some (.scr ns), none, none, none, none, none, none, none, none, none] [] = .nx [some (.scr ns), some (.obj 0), none, none, none, none, none, none, none, none] (hD ns 0 0 7 []) := by rfl
  obtain ⟨p1, q1, r1, x1, x2, x3, x4, x5, B1, i1, i2, i3, i4, i5, e1⟩ := parts_ok (rest := []) N B0
  have hs1 : ∀ x ∈ [x1, x2, x3, x4, x5], x ∈ Sv := by
    intro x hx
    simp only [List.mem_cons, List.mem_nil_iff, or_false] at hx
    rcases hx with h | h | h | h | h <;> subst h
    · exact good_sv i1 (by simp [Sv]) (by simp [Sv])
    · exact good_sv i2 (by simp [Sv]) (by simp [Sv])
    · exact good_sv i3 (by simp [Sv]) (by simp [Sv])
    · exact good_sv i4 (by simp [Sv]) (by simp [Sv])
    · exact good_sv i5 (by simp [Sv]) (by simp [Sv])
  obtain ⟨v, p2, q2, r2, h0, h1, B2, e2⟩ := draw_ok (m := 3) (rest := [.lst [x1, x2, x3, x4, x5]]) N B1 (by decide) (by decide)
  obtain ⟨p3, q3, r3, xs, b3, b4, B3, h5, hs, e3⟩ := loop3 (a0 := some (.scr ns)) (ts := rngT 0 v.toNat) N (rngT 0 v.toNat).length 0 (by omega) (a3 := none) (a4 := none) B2 rfl hs1
  match xs, h5 with
  | [z1, z2, z3, z4, z5], _ =>
    have s3 : mFor (gN 3) (sRng1 (mCons (mCall 2 F_law_draw (mCons (mVar 1) (mCons (mC (.int 3)) mNil))) mNil)) body3 [some (.scr ns), some (.obj 0), some (.obj 1), none, none, none, none, none, none, none] (hD ns p1 q1 r1 [.lst [x1, x2, x3, x4, x5]]) = .nx [some (.scr ns), some (.obj 0), some (.obj 1), b3, b4, none, none, none, none, none] (hD ns p3 q3 r3 [.lst [z1, z2, z3, z4, z5]]) := by
      refine for_e (rng1_e (cons_e (call_e (cons_e (var_e rfl) (cons_e c_e nil_e)) rfl e2) nil_e) h0 (by omega)) e3
    have hr := law_rule_ok hs (n := 1) (h := hD ns p3 q3 r3 [.lst [z1, z2, z3, z4, z5]]) rfl
    have hd := due_ok hs (d := .lst [.lv (ns.map T.int), .int p3, .int q3, .int r3]) (rest := [])
    have go : m_law [some (.scr ns), none, none, none, none, none, none, none, none, none] [] = (mSeq (mTryF 0 xs_0 7 5 (mSet 6 (mCallX 1 F_law_rule (mCons (mVar 2) mNil)))) (mSeq (mIf (mCmpT fNe (mVar 5) (mCall 1 F_law_due (mCons (mVar 2) mNil))) (mRet (mC (.bl false))) mNx) (mSeq (mIf (mCmpT fNe (mComp [9] (sVal (mCall 0 F_all_rules mNil)) (gN 9) mYes (mCall 1 F_law_fields (mCons (mVar 9) mNil))) (mCall 0 F_law_every mNil)) (mRet (mC (.bl false))) mNx) (mSeq (mIf (mCmpT (fIsN true) (mVar 6) (mC .non)) (mRet (mC (.bl true))) mNx) (mSeq (mSet 8 (mCall 1 F_law_parts (mCons (mVar 1) mNil))) (mRet (mAndV (mCmp fEq (mCall 1 F_law_fields (mCons (mVar 6) mNil)) (mVar 2)) (mCmp fEq (mInsEq 0 F_Rule_eq (mVar 6) (mCallX 1 F_law_rule (mCons (mVar 8) mNil))) (mCmp fEq (mVar 2) (mVar 8))))))))))
        [some (.scr ns), some (.obj 0), some (.obj 1), b3, b4, some .non, some .non, none, none, none] (hD ns p3 q3 r3 [.lst [z1, z2, z3, z4, z5]]) := by
      unfold m_law
      refine (seq_n s1).trans ((seq_n (set_e (call_e (cons_e (var_e rfl) nil_e) rfl e1))).trans ((seq_n s3).trans ((seq_n (set_e c_e)).trans ((seq_n (set_e c_e)).trans rfl))))
    have fin : ∀ {h' : AH}, m_law [some (.scr ns), none, none, none, none, none, none, none, none, none] [] = .rt (.bl true) h' → ∃ h', F_law [.scr ns] [] = .ok (.bl true) h' := fun {h'} e => ⟨h', run_r e⟩
    cases w : wrong 0 [z1, z2, z3, z4, z5] with
    | some t =>
      rw [w] at hr hd
      obtain ⟨st, rfl⟩ := wrong_str w
      have e6 : mSet 6 (mCallX 1 F_law_rule (mCons (mVar 2) mNil)) [some (.scr ns), some (.obj 0), some (.obj 1), b3, b4, some .non, some .non, none, none, none] (hD ns p3 q3 r3 [.lst [z1, z2, z3, z4, z5]]) = .ex ⟨0, some (.str st)⟩ [some (.scr ns), some (.obj 0), some (.obj 1), b3, b4, some .non, some .non, none, none, none] (hD ns p3 q3 r3 [.lst [z1, z2, z3, z4, z5]]) := by
        have ec : mCallX 1 F_law_rule (mCons (mVar 2) mNil) [some (.scr ns), some (.obj 0), some (.obj 1), b3, b4, some .non, some .non, none, none, none] (hD ns p3 q3 r3 [.lst [z1, z2, z3, z4, z5]]) = .ex ⟨0, some (.str st)⟩ (hD ns p3 q3 r3 [.lst [z1, z2, z3, z4, z5]]) := callX_e (cons_e (var_e rfl) nil_e) rfl hr
        unfold mSet
        rw [ec]
        rfl
      have hne : fNe (.str st) (.str st) (hD ns p3 q3 r3 [.lst [z1, z2, z3, z4, z5]]) = some false := by
        show some (!decide (st = st)) = _
        rw [decide_eq_true rfl]
        rfl
      refine fin (h' := hD ns p3 q3 r3 [.lst [z1, z2, z3, z4, z5]]) ?_
      rw [go]
      refine (seq_n (tryF_x e6 rfl (by show 7 < 10; decide))).trans ?_
      show mSeq _ _ [some (.scr ns), some (.obj 0), some (.obj 1), b3, b4, some (.str st), some .non, none, none, none] _ = _
      refine (seq_n (if_fn (cmpT_e (var_e rfl) (call_e (cons_e (var_e rfl) nil_e) rfl hd) hne))).trans ?_
      refine (seq_n (t3 _ _ _ _ _ _ _ _)).trans ?_
      exact seq_r (by rfl)
    | none =>
      rw [w] at hr hd
      obtain ⟨g0, g1, g2, g3, g4⟩ := wrong_none w
      obtain ⟨p4, q4, r4, y1, y2, y3, y4, y5, B4, k1, k2, k3, k4, k5, e4⟩ := parts_ok (rest := [.lst [z1, z2, z3, z4, z5]]) N B3
      have e6 : mSet 6 (mCallX 1 F_law_rule (mCons (mVar 2) mNil)) [some (.scr ns), some (.obj 0), some (.obj 1), b3, b4, some .non, some .non, none, none, none] (hD ns p3 q3 r3 [.lst [z1, z2, z3, z4, z5]]) = .nx [some (.scr ns), some (.obj 0), some (.obj 1), b3, b4, some .non, some (.ins 0 [z1, z2, z3, z4, z5]), none, none, none] (hD ns p3 q3 r3 [.lst [z1, z2, z3, z4, z5]]) := by
        have ec : mCallX 1 F_law_rule (mCons (mVar 2) mNil) [some (.scr ns), some (.obj 0), some (.obj 1), b3, b4, some .non, some .non, none, none, none] (hD ns p3 q3 r3 [.lst [z1, z2, z3, z4, z5]]) = .ok (.ins 0 [z1, z2, z3, z4, z5]) (hD ns p3 q3 r3 [.lst [z1, z2, z3, z4, z5]]) := callX_e (cons_e (var_e rfl) nil_e) rfl hr
        rw [set_e ec]
        rfl
      refine fin (h' := hD ns p4 q4 r4 [.lst [z1, z2, z3, z4, z5], .lst [y1, y2, y3, y4, y5]]) ?_
      rw [go]
      refine (seq_n (tryF_n e6)).trans ?_
      refine (seq_n (if_fn (cmpT_e (var_e rfl) (call_e (cons_e (var_e rfl) nil_e) rfl hd) rfl))).trans ?_
      refine (seq_n (t3 _ _ _ _ _ _ _ _)).trans ?_
      refine (seq_n (if_fn (cmpT_e (var_e rfl) c_e rfl))).trans ?_
      refine (seq_n (set_e (call_e (cons_e (var_e rfl) nil_e) rfl e4))).trans ?_
      exact last_ok (good0 (hs z1 (by simp)) g0) (good1 (hs z2 (by simp)) g1) (good2 (hs z3 (by simp)) g2) (good3 (hs z4 (by simp)) g3) (good4 (hs z5 (by simp)) g4) k1 k2 k3 k4 k5
end M
namespace M
open PySem L2
open PySem.W PyProof.Rows in
theorem mkTx {K : PySem.W.Frag} {h : Heap} {mg : Str → Option Value} (X : K.In h) (N : h.Ns mainGlobals mg)
    {C0 E0 : Addr}
    {f_law_begin : Addr} {oc_law_begin : Value} {od_law_begin an_law_begin : Option Addr} {sl_law_begin : Array (Option Value)} {kV_law_begin dc_law_begin pm_law_begin cd_law_begin ct_law_begin : Value}
    {f_law_draw : Addr} {oc_law_draw : Value} {od_law_draw an_law_draw : Option Addr} {sl_law_draw : Array (Option Value)} {kV_law_draw dc_law_draw pm_law_draw cd_law_draw ct_law_draw : Value}
    {f_law_parts : Addr} {oc_law_parts : Value} {od_law_parts an_law_parts : Option Addr} {sl_law_parts : Array (Option Value)} {kV_law_parts dc_law_parts pm_law_parts cd_law_parts ct_law_parts : Value}
    {f_is_choice : Addr} {oc_is_choice : Value} {od_is_choice an_is_choice : Option Addr} {sl_is_choice : Array (Option Value)} {kV_is_choice dc_is_choice pm_is_choice cd_is_choice ct_is_choice : Value}
    {nm0 q0 : Str} {Nx0 : Addr} {bs0 : List Value} {sn0 : List Str} {sub0 : List Value} {ab0 : Bool} {col0 : Option Bool} {dd0 : Option Addr} {k00 k10 k20 k30 k50 : Option Value}
    {f_BadRule_init : Addr} {oc_BadRule_init : Value} {od_BadRule_init an_BadRule_init : Option Addr} {sl_BadRule_init : Array (Option Value)} {kV_BadRule_init dc_BadRule_init pm_BadRule_init cd_BadRule_init ct_BadRule_init : Value}
    {f_Rule_init : Addr} {oc_Rule_init : Value} {od_Rule_init an_Rule_init : Option Addr} {sl_Rule_init : Array (Option Value)} {kV_Rule_init dc_Rule_init pm_Rule_init cd_Rule_init ct_Rule_init : Value}
    {f_law_rule : Addr} {oc_law_rule : Value} {od_law_rule an_law_rule : Option Addr} {sl_law_rule : Array (Option Value)} {kV_law_rule dc_law_rule pm_law_rule cd_law_rule ct_law_rule : Value}
    {f_law_choices : Addr} {oc_law_choices : Value} {od_law_choices an_law_choices : Option Addr} {sl_law_choices : Array (Option Value)} {kV_law_choices dc_law_choices pm_law_choices cd_law_choices ct_law_choices : Value}
    {f_law_due : Addr} {oc_law_due : Value} {od_law_due an_law_due : Option Addr} {sl_law_due : Array (Option Value)} {kV_law_due dc_law_due pm_law_due cd_law_due ct_law_due : Value}
    {f_all_rules : Addr} {oc_all_rules : Value} {od_all_rules an_all_rules : Option Addr} {sl_all_rules : Array (Option Value)} {kV_all_rules dc_all_rules pm_all_rules cd_all_rules ct_all_rules : Value}
    {f_law_fields : Addr} {oc_law_fields : Value} {od_law_fields an_law_fields : Option Addr} {sl_law_fields : Array (Option Value)} {kV_law_fields dc_law_fields pm_law_fields cd_law_fields ct_law_fields : Value}
    {f_law_every : Addr} {oc_law_every : Value} {od_law_every an_law_every : Option Addr} {sl_law_every : Array (Option Value)} {kV_law_every dc_law_every pm_law_every cd_law_every ct_law_every : Value}
    {f_Rule_parts : Addr} {oc_Rule_parts : Value} {od_Rule_parts an_Rule_parts : Option Addr} {sl_Rule_parts : Array (Option Value)} {kV_Rule_parts dc_Rule_parts pm_Rule_parts cd_Rule_parts ct_Rule_parts : Value}
    {f_Rule_eq : Addr} {oc_Rule_eq : Value} {od_Rule_eq an_Rule_eq : Option Addr} {sl_Rule_eq : Array (Option Value)} {kV_Rule_eq dc_Rule_eq pm_Rule_eq cd_Rule_eq ct_Rule_eq : Value}
    {f_law : Addr} {oc_law : Value} {od_law an_law : Option Addr} {sl_law : Array (Option Value)} {kV_law dc_law pm_law cd_law ct_law : Value}
    {p_PARTS : Addr}
    {tk_PARTS_1 : Tok}
    {tk_PARTS_2 : Tok}
    {tk_PARTS_3 : Tok}
    {tk_PARTS_4 : Tok}
    {tk_PARTS_5 : Tok}
    {d_p_PARTS : Option Addr} {n_p_PARTS : Nat} {sl_p_PARTS : Array (Option Value)}
    {p_CHOICES : Addr}
    {p_CHOICES_1 : Addr}
    {p_CHOICES_2 : Addr}
    {p_CHOICES_3 : Addr}
    {p_CHOICES_4 : Addr}
    {p_CHOICES_5 : Addr}
    {d_p_CHOICES : Option Addr} {n_p_CHOICES : Nat} {sl_p_CHOICES : Array (Option Value)}
    {tk_CHOICES_6 : Tok}
    {tk_CHOICES_7 : Tok}
    {d_p_CHOICES_1 : Option Addr} {n_p_CHOICES_1 : Nat} {sl_p_CHOICES_1 : Array (Option Value)}
    {tk_CHOICES_8 : Tok}
    {tk_CHOICES_9 : Tok}
    {d_p_CHOICES_2 : Option Addr} {n_p_CHOICES_2 : Nat} {sl_p_CHOICES_2 : Array (Option Value)}
    {tk_CHOICES_10 : Tok}
    {tk_CHOICES_11 : Tok}
    {d_p_CHOICES_3 : Option Addr} {n_p_CHOICES_3 : Nat} {sl_p_CHOICES_3 : Array (Option Value)}
    {tk_CHOICES_12 : Tok}
    {tk_CHOICES_13 : Tok}
    {d_p_CHOICES_4 : Option Addr} {n_p_CHOICES_4 : Nat} {sl_p_CHOICES_4 : Array (Option Value)}
    {tk_CHOICES_14 : Tok}
    {tk_CHOICES_15 : Tok}
    {d_p_CHOICES_5 : Option Addr} {n_p_CHOICES_5 : Nat} {sl_p_CHOICES_5 : Array (Option Value)}
    (gC0 : PySem.W.nsIn K mainGlobals "Rule" = some (some (.ref C0)))
    (pg0 : PySem.W.plainGet K C0 Str.empty = true)
    (hd0 : PySem.W.hasDictIn K C0 = true)
    (po0 : PySem.W.plainOver K C0 = true)
    (sa0 : PySem.W.findIn K (.ref C0) "__setattr__" = some (some (.builtin "object.__setattr__")))
    (mk0 : PySem.W.makesIn K C0 = true)
    (kc0 : PySem.W.keepIn K (.ref C0) = true)
    (nf0_size : PySem.W.findIn K (.ref C0) "size" = some none)
    (nf0_rest : PySem.W.findIn K (.ref C0) "rest" = some none)
    (nf0_dealing : PySem.W.findIn K (.ref C0) "dealing" = some none)
    (nf0_restoring : PySem.W.findIn K (.ref C0) "restoring" = some none)
    (nf0_finding : PySem.W.findIn K (.ref C0) "finding" = some none)
    (gE0 : PySem.W.nsIn K mainGlobals "BadRule" = some (some (.ref E0)))
    (ex0 : PySem.W.subIn K (.ref E0) (.type "BaseException") = some true)
    (ty0 : PySem.W.typeIn K (.ref E0) = some (.type "type"))
    (ke0 : PySem.W.keepIn K (.ref E0) = true)
    (ci0 : PySem.W.isClsIn K E0 = true)
    (a_law_begin : PySem.W.nsIn K mainGlobals "_law_begin" = some (some (.ref f_law_begin)))
    (l_law_begin : K.lookup f_law_begin = some ⟨oc_law_begin, od_law_begin, .func (PySem.W.fnOf "_law_begin" "_law_begin" (defArgs s_law_begin) (defBody s_law_begin) (defScope s_law_begin) .none kV_law_begin dc_law_begin pm_law_begin an_law_begin cd_law_begin ct_law_begin), sl_law_begin⟩)
    (c_law_begin : PySem.W.codeIn K cd_law_begin "_law_begin" = true)
    (k_law_begin : PySem.W.keepIn K (.ref f_law_begin) = true)
    (a_law_draw : PySem.W.nsIn K mainGlobals "_law_draw" = some (some (.ref f_law_draw)))
    (l_law_draw : K.lookup f_law_draw = some ⟨oc_law_draw, od_law_draw, .func (PySem.W.fnOf "_law_draw" "_law_draw" (defArgs s_law_draw) (defBody s_law_draw) (defScope s_law_draw) .none kV_law_draw dc_law_draw pm_law_draw an_law_draw cd_law_draw ct_law_draw), sl_law_draw⟩)
    (c_law_draw : PySem.W.codeIn K cd_law_draw "_law_draw" = true)
    (k_law_draw : PySem.W.keepIn K (.ref f_law_draw) = true)
    (a_law_parts : PySem.W.nsIn K mainGlobals "_law_parts" = some (some (.ref f_law_parts)))
    (l_law_parts : K.lookup f_law_parts = some ⟨oc_law_parts, od_law_parts, .func (PySem.W.fnOf "_law_parts" "_law_parts" (defArgs s_law_parts) (defBody s_law_parts) (defScope s_law_parts) .none kV_law_parts dc_law_parts pm_law_parts an_law_parts cd_law_parts ct_law_parts), sl_law_parts⟩)
    (c_law_parts : PySem.W.codeIn K cd_law_parts "_law_parts" = true)
    (k_law_parts : PySem.W.keepIn K (.ref f_law_parts) = true)
    (a_is_choice : PySem.W.nsIn K mainGlobals "is_choice" = some (some (.ref f_is_choice)))
    (l_is_choice : K.lookup f_is_choice = some ⟨oc_is_choice, od_is_choice, .func (PySem.W.fnOf "is_choice" "is_choice" (defArgs s_is_choice) (defBody s_is_choice) (defScope s_is_choice) .none kV_is_choice dc_is_choice pm_is_choice an_is_choice cd_is_choice ct_is_choice), sl_is_choice⟩)
    (c_is_choice : PySem.W.codeIn K cd_is_choice "is_choice" = true)
    (k_is_choice : PySem.W.keepIn K (.ref f_is_choice) = true)
    (lc0 : K.lookup E0 = some (excClassObj nm0 q0 E0 Nx0 bs0 (.ref E6 :: veT) true sn0 sub0 ab0 col0 dd0 k00 k10 k20 k30 k50 "ValueError.__new__"))
    (xs0 : PySem.W.findIn K (.ref E0) "__setattr__" = some (some (.builtin "object.__setattr__")))
    (xn0 : PySem.W.findIn K (.ref E0) "part" = some none)
    (a_BadRule_init : PySem.W.findIn K (.ref E0) "__init__" = some (some (.ref f_BadRule_init)))
    (t_BadRule_init : PySem.W.typeIn K (.ref f_BadRule_init) = some (.type "function"))
    (l_BadRule_init : K.lookup f_BadRule_init = some ⟨oc_BadRule_init, od_BadRule_init, .func (PySem.W.fnOf "__init__" "BadRule.__init__" (defArgs s_BadRule_init) (defBody s_BadRule_init) (defScope s_BadRule_init) .none kV_BadRule_init dc_BadRule_init pm_BadRule_init an_BadRule_init cd_BadRule_init ct_BadRule_init), sl_BadRule_init⟩)
    (c_BadRule_init : PySem.W.codeIn K cd_BadRule_init "BadRule.__init__" = true)
    (k_BadRule_init : PySem.W.keepIn K (.ref f_BadRule_init) = true)
    (a_Rule_init : PySem.W.findIn K (.ref C0) "__init__" = some (some (.ref f_Rule_init)))
    (i_Rule_init : PySem.W.isFn K (.ref f_Rule_init) = true)
    (l_Rule_init : K.lookup f_Rule_init = some ⟨oc_Rule_init, od_Rule_init, .func (PySem.W.fnOf "__init__" "Rule.__init__" (defArgs s_Rule_init) (defBody s_Rule_init) (defScope s_Rule_init) .none kV_Rule_init dc_Rule_init pm_Rule_init an_Rule_init cd_Rule_init ct_Rule_init), sl_Rule_init⟩)
    (c_Rule_init : PySem.W.codeIn K cd_Rule_init "Rule.__init__" = true)
    (k_Rule_init : PySem.W.keepIn K (.ref f_Rule_init) = true)
    (a_law_rule : PySem.W.nsIn K mainGlobals "_law_rule" = some (some (.ref f_law_rule)))
    (l_law_rule : K.lookup f_law_rule = some ⟨oc_law_rule, od_law_rule, .func (PySem.W.fnOf "_law_rule" "_law_rule" (defArgs s_law_rule) (defBody s_law_rule) (defScope s_law_rule) .none kV_law_rule dc_law_rule pm_law_rule an_law_rule cd_law_rule ct_law_rule), sl_law_rule⟩)
    (c_law_rule : PySem.W.codeIn K cd_law_rule "_law_rule" = true)
    (k_law_rule : PySem.W.keepIn K (.ref f_law_rule) = true)
    (a_law_choices : PySem.W.nsIn K mainGlobals "_law_choices" = some (some (.ref f_law_choices)))
    (l_law_choices : K.lookup f_law_choices = some ⟨oc_law_choices, od_law_choices, .func (PySem.W.fnOf "_law_choices" "_law_choices" (defArgs s_law_choices) (defBody s_law_choices) (defScope s_law_choices) .none kV_law_choices dc_law_choices pm_law_choices an_law_choices cd_law_choices ct_law_choices), sl_law_choices⟩)
    (c_law_choices : PySem.W.codeIn K cd_law_choices "_law_choices" = true)
    (k_law_choices : PySem.W.keepIn K (.ref f_law_choices) = true)
    (a_law_due : PySem.W.nsIn K mainGlobals "_law_due" = some (some (.ref f_law_due)))
    (l_law_due : K.lookup f_law_due = some ⟨oc_law_due, od_law_due, .func (PySem.W.fnOf "_law_due" "_law_due" (defArgs s_law_due) (defBody s_law_due) (defScope s_law_due) .none kV_law_due dc_law_due pm_law_due an_law_due cd_law_due ct_law_due), sl_law_due⟩)
    (c_law_due : PySem.W.codeIn K cd_law_due "_law_due" = true)
    (k_law_due : PySem.W.keepIn K (.ref f_law_due) = true)
    (a_all_rules : PySem.W.nsIn K mainGlobals "all_rules" = some (some (.ref f_all_rules)))
    (l_all_rules : K.lookup f_all_rules = some ⟨oc_all_rules, od_all_rules, .func (PySem.W.fnOf "all_rules" "all_rules" (defArgs s_all_rules) (defBody s_all_rules) (defScope s_all_rules) .none kV_all_rules dc_all_rules pm_all_rules an_all_rules cd_all_rules ct_all_rules), sl_all_rules⟩)
    (c_all_rules : PySem.W.codeIn K cd_all_rules "all_rules" = true)
    (k_all_rules : PySem.W.keepIn K (.ref f_all_rules) = true)
    (a_law_fields : PySem.W.nsIn K mainGlobals "_law_fields" = some (some (.ref f_law_fields)))
    (l_law_fields : K.lookup f_law_fields = some ⟨oc_law_fields, od_law_fields, .func (PySem.W.fnOf "_law_fields" "_law_fields" (defArgs s_law_fields) (defBody s_law_fields) (defScope s_law_fields) .none kV_law_fields dc_law_fields pm_law_fields an_law_fields cd_law_fields ct_law_fields), sl_law_fields⟩)
    (c_law_fields : PySem.W.codeIn K cd_law_fields "_law_fields" = true)
    (k_law_fields : PySem.W.keepIn K (.ref f_law_fields) = true)
    (a_law_every : PySem.W.nsIn K mainGlobals "_law_every" = some (some (.ref f_law_every)))
    (l_law_every : K.lookup f_law_every = some ⟨oc_law_every, od_law_every, .func (PySem.W.fnOf "_law_every" "_law_every" (defArgs s_law_every) (defBody s_law_every) (defScope s_law_every) .none kV_law_every dc_law_every pm_law_every an_law_every cd_law_every ct_law_every), sl_law_every⟩)
    (c_law_every : PySem.W.codeIn K cd_law_every "_law_every" = true)
    (k_law_every : PySem.W.keepIn K (.ref f_law_every) = true)
    (a_Rule_parts : PySem.W.findIn K (.ref C0) "parts" = some (some (.ref f_Rule_parts)))
    (i_Rule_parts : PySem.W.isFn K (.ref f_Rule_parts) = true)
    (l_Rule_parts : K.lookup f_Rule_parts = some ⟨oc_Rule_parts, od_Rule_parts, .func (PySem.W.fnOf "parts" "Rule.parts" (defArgs s_Rule_parts) (defBody s_Rule_parts) (defScope s_Rule_parts) .none kV_Rule_parts dc_Rule_parts pm_Rule_parts an_Rule_parts cd_Rule_parts ct_Rule_parts), sl_Rule_parts⟩)
    (c_Rule_parts : PySem.W.codeIn K cd_Rule_parts "Rule.parts" = true)
    (k_Rule_parts : PySem.W.keepIn K (.ref f_Rule_parts) = true)
    (a_Rule_eq : PySem.W.findIn K (.ref C0) "__eq__" = some (some (.ref f_Rule_eq)))
    (i_Rule_eq : PySem.W.isFn K (.ref f_Rule_eq) = true)
    (l_Rule_eq : K.lookup f_Rule_eq = some ⟨oc_Rule_eq, od_Rule_eq, .func (PySem.W.fnOf "__eq__" "Rule.__eq__" (defArgs s_Rule_eq) (defBody s_Rule_eq) (defScope s_Rule_eq) .none kV_Rule_eq dc_Rule_eq pm_Rule_eq an_Rule_eq cd_Rule_eq ct_Rule_eq), sl_Rule_eq⟩)
    (c_Rule_eq : PySem.W.codeIn K cd_Rule_eq "Rule.__eq__" = true)
    (k_Rule_eq : PySem.W.keepIn K (.ref f_Rule_eq) = true)
    (a_law : PySem.W.nsIn K mainGlobals "law" = some (some (.ref f_law)))
    (l_law : K.lookup f_law = some ⟨oc_law, od_law, .func (PySem.W.fnOf "law" "law" (defArgs s_law) (defBody s_law) (defScope s_law) .none kV_law dc_law pm_law an_law cd_law ct_law), sl_law⟩)
    (c_law : PySem.W.codeIn K cd_law "law" = true)
    (k_law : PySem.W.keepIn K (.ref f_law) = true)
    (z_any : PySem.W.nsIn K mainGlobals "any" = some none)
    (z_bool : PySem.W.nsIn K mainGlobals "bool" = some none)
    (z_int : PySem.W.nsIn K mainGlobals "int" = some none)
    (z_isinstance : PySem.W.nsIn K mainGlobals "isinstance" = some none)
    (z_len : PySem.W.nsIn K mainGlobals "len" = some none)
    (z_list : PySem.W.nsIn K mainGlobals "list" = some none)
    (z_range : PySem.W.nsIn K mainGlobals "range" = some none)
    (z_str : PySem.W.nsIn K mainGlobals "str" = some none)
    (z_zip : PySem.W.nsIn K mainGlobals "zip" = some none)
    (a_p_PARTS : PySem.W.nsIn K mainGlobals "PARTS" = some (some (.ref p_PARTS)))
    (l_p_PARTS : K.lookup p_PARTS = some ⟨.type "tuple", d_p_PARTS, .seq #[.str "size" tk_PARTS_1, .str "rest" tk_PARTS_2, .str "dealing" tk_PARTS_3, .str "restoring" tk_PARTS_4, .str "finding" tk_PARTS_5] n_p_PARTS, sl_p_PARTS⟩)
    (a_p_CHOICES : PySem.W.nsIn K mainGlobals "CHOICES" = some (some (.ref p_CHOICES)))
    (l_p_CHOICES : K.lookup p_CHOICES = some ⟨.type "tuple", d_p_CHOICES, .seq #[.ref p_CHOICES_1, .ref p_CHOICES_2, .ref p_CHOICES_3, .ref p_CHOICES_4, .ref p_CHOICES_5] n_p_CHOICES, sl_p_CHOICES⟩)
    (l_p_CHOICES_1 : K.lookup p_CHOICES_1 = some ⟨.type "tuple", d_p_CHOICES_1, .seq #[.int 1 tk_CHOICES_6, .int 2 tk_CHOICES_7] n_p_CHOICES_1, sl_p_CHOICES_1⟩)
    (l_p_CHOICES_2 : K.lookup p_CHOICES_2 = some ⟨.type "tuple", d_p_CHOICES_2, .seq #[.str "lost" tk_CHOICES_8, .str "back" tk_CHOICES_9] n_p_CHOICES_2, sl_p_CHOICES_2⟩)
    (l_p_CHOICES_3 : K.lookup p_CHOICES_3 = some ⟨.type "tuple", d_p_CHOICES_3, .seq #[.str "empty" tk_CHOICES_10, .str "any" tk_CHOICES_11] n_p_CHOICES_3, sl_p_CHOICES_3⟩)
    (l_p_CHOICES_4 : K.lookup p_CHOICES_4 = some ⟨.type "tuple", d_p_CHOICES_4, .seq #[.str "as was" tk_CHOICES_12, .str "empty" tk_CHOICES_13] n_p_CHOICES_4, sl_p_CHOICES_4⟩)
    (l_p_CHOICES_5 : K.lookup p_CHOICES_5 = some ⟨.type "tuple", d_p_CHOICES_5, .seq #[.str "as was" tk_CHOICES_14, .str "empty" tk_CHOICES_15] n_p_CHOICES_5, sl_p_CHOICES_5⟩)
    (s0_0 : PySem.W.subIn K (.ref E0) (.ref E0) = some true)
    (xg0 : PySem.W.findIn K (.ref E0) "__getattribute__" = some (some (.builtin "BaseException.__getattribute__")))
    (xh0 : PySem.W.findIn K (.ref E0) "__getattr__" = some none)
    (xd0 : PySem.W.hasDictIn K E0 = true)
    (ica0 : PySem.W.findIn K (.ref C0) "__class__" = some (some (.builtin "object.__class__")))
    (icn0 : PySem.W.specialIn K (.builtin "object.__class__") "__get__" = some (some (.builtin "getset_descriptor.__get__")))
    (ict0 : PySem.W.takesIn K (.builtin "object.__class__") = some true)
    (icm0 : PySem.W.mroIn K C0 (.type "object") = some true) : Tx ⟨fun | 0 => C0 | 1 => C0 | _ => C0, fun | 0 => E0 | _ => E0⟩ K mg := by
  have cls0 : Cls K C0 := ⟨pg0, hd0, po0, sa0⟩
  have nof0 : ∀ f ∈ FL 0, NoAttr K C0 f := fun f hf => by
    have hf' : f = "size" ∨ f = "rest" ∨ f = "dealing" ∨ f = "restoring" ∨ f = "finding" := by simpa [FL] using hf
    rcases hf' with rfl | rfl | rfl | rfl | rfl
    · exact nf0_size
    · exact nf0_rest
    · exact nf0_dealing
    · exact nf0_restoring
    · exact nf0_finding
  exact {
    d_law_begin := df_mk X N a_law_begin l_law_begin c_law_begin k_law_begin fun _ _ _ _ _ _ us hl => match us, hl with | [_], _ => rfl,
    d_law_draw := df_mk X N a_law_draw l_law_draw c_law_draw k_law_draw fun _ _ _ _ _ _ us hl => match us, hl with | [_, _], _ => rfl,
    d_law_parts := df_mk X N a_law_parts l_law_parts c_law_parts k_law_parts fun _ _ _ _ _ _ us hl => match us, hl with | [_], _ => rfl,
    d_is_choice := df_mk X N a_is_choice l_is_choice c_is_choice k_is_choice fun _ _ _ _ _ _ us hl => match us, hl with | [_, _], _ => rfl,
    x0 := x1_mk (c := 0) X N gE0 lc0 rfl xs0 xn0 ex0 ty0 ke0 a_BadRule_init t_BadRule_init l_BadRule_init c_BadRule_init k_BadRule_init fun _ _ _ _ _ _ us hl => match us, hl with | [_, _], _ => rfl,
    i0 := dfi_mk (c := 0) X N gC0 a_Rule_init i_Rule_init l_Rule_init c_Rule_init k_Rule_init mk0 kc0 fun _ _ _ _ _ _ us hl => match us, hl with | [_, _, _, _, _, _], _ => rfl,
    d_law_rule := df_mk X N a_law_rule l_law_rule c_law_rule k_law_rule fun _ _ _ _ _ _ us hl => match us, hl with | [_], _ => rfl,
    d_law_choices := df_mk X N a_law_choices l_law_choices c_law_choices k_law_choices fun _ _ _ _ _ _ us hl => match us, hl with | [], _ => rfl,
    d_law_due := df_mk X N a_law_due l_law_due c_law_due k_law_due fun _ _ _ _ _ _ us hl => match us, hl with | [_], _ => rfl,
    d_all_rules := df_mk X N a_all_rules l_all_rules c_all_rules k_all_rules fun _ _ _ _ _ _ us hl => match us, hl with | [], _ => rfl,
    d_law_fields := df_mk X N a_law_fields l_law_fields c_law_fields k_law_fields fun _ _ _ _ _ _ us hl => match us, hl with | [_], _ => rfl,
    d_law_every := df_mk X N a_law_every l_law_every c_law_every k_law_every fun _ _ _ _ _ _ us hl => match us, hl with | [], _ => rfl,
    d_Rule_parts := dfm_mk (c := 0) a_Rule_parts i_Rule_parts l_Rule_parts c_Rule_parts k_Rule_parts cls0 (by decide) fun _ _ _ _ _ _ us hl => match us, hl with | [_], _ => rfl,
    d_Rule_eq := dfm_mk (c := 0) a_Rule_eq i_Rule_eq l_Rule_eq c_Rule_eq k_Rule_eq cls0 (by decide) fun _ _ _ _ _ _ us hl => match us, hl with | [_, _], _ => rfl,
    d_law := df_mk X N a_law l_law c_law k_law fun _ _ _ _ _ _ us hl => match us, hl with | [_], _ => rfl,
    lw := ⟨f_law, _, fun_mk l_law c_law k_law, PySem.W.mg_of X N a_law, fun s v => .of_eq rfl⟩,
    n_any := PySem.W.mg_none_of X N z_any,
    n_bool := PySem.W.mg_none_of X N z_bool,
    n_int := PySem.W.mg_none_of X N z_int,
    n_isinstance := PySem.W.mg_none_of X N z_isinstance,
    n_len := PySem.W.mg_none_of X N z_len,
    n_list := PySem.W.mg_none_of X N z_list,
    n_range := PySem.W.mg_none_of X N z_range,
    n_str := PySem.W.mg_none_of X N z_str,
    n_zip := PySem.W.mg_none_of X N z_zip,
    c_PARTS := cst_ref X N a_p_PARTS fun G μ H => (.tup (sqK (xs := [.str "size", .str "rest", .str "dealing", .str "restoring", .str "finding"]) l_p_PARTS (.cons ⟨_, rfl⟩ (.cons ⟨_, rfl⟩ (.cons ⟨_, rfl⟩ (.cons ⟨_, rfl⟩ (.cons ⟨_, rfl⟩ .nil)))))) (.cons (.str _) (.cons (.str _) (.cons (.str _) (.cons (.str _) (.cons (.str _) .nil)))))),
    c_CHOICES := cst_ref X N a_p_CHOICES fun G μ H => (.tup (sqK (xs := [.ref p_CHOICES_1, .ref p_CHOICES_2, .ref p_CHOICES_3, .ref p_CHOICES_4, .ref p_CHOICES_5]) l_p_CHOICES (.cons rfl (.cons rfl (.cons rfl (.cons rfl (.cons rfl .nil)))))) (.cons (.tup (sqK (xs := [.int 1, .int 2]) l_p_CHOICES_1 (.cons ⟨_, rfl⟩ (.cons ⟨_, rfl⟩ .nil))) (.cons (.int _) (.cons (.int _) .nil))) (.cons (.tup (sqK (xs := [.str "lost", .str "back"]) l_p_CHOICES_2 (.cons ⟨_, rfl⟩ (.cons ⟨_, rfl⟩ .nil))) (.cons (.str _) (.cons (.str _) .nil))) (.cons (.tup (sqK (xs := [.str "empty", .str "any"]) l_p_CHOICES_3 (.cons ⟨_, rfl⟩ (.cons ⟨_, rfl⟩ .nil))) (.cons (.str _) (.cons (.str _) .nil))) (.cons (.tup (sqK (xs := [.str "as was", .str "empty"]) l_p_CHOICES_4 (.cons ⟨_, rfl⟩ (.cons ⟨_, rfl⟩ .nil))) (.cons (.str _) (.cons (.str _) .nil))) (.cons (.tup (sqK (xs := [.str "as was", .str "empty"]) l_p_CHOICES_5 (.cons ⟨_, rfl⟩ (.cons ⟨_, rfl⟩ .nil))) (.cons (.str _) (.cons (.str _) .nil))) .nil)))))),
    cl0 := ⟨cls0, by decide, nof0⟩,
    e0 := xm_cons (n := 0) (c := 0) (exm_own ex0 ci0 ty0 s0_0) (xm_nil),
    xf0 := ⟨xg0, xh0, ex0, xd0⟩,
    ic0 := ⟨ica0, icn0, ict0, icm0, kit_own, PySem.W.mg_of X N gC0, cls0⟩ }
end M
section
open PySem PySem.W PyProof.Rows
theorem M.walk {l : PySem.W.OpenLaw} {q : Program} {loose : List Str} {XP : (Str → Option Value) → Heap → Prop} {YP : World → Heap → Prop} {d : DefRec} {K : Params → PySem.W.Frag} (hn : l.most = some 63) (hdf : d.params.defaults = []) (hdn : d.name = "law")
    (hY : ∀ (w : World) (h : Heap), YP w h → (K w.params).In h)
    (F : ∀ (w : World) (mg : Str → Option Value) (h : Heap), (K w.params).In h → h.Ns mainGlobals mg → ∃ G, M.Tx G (K w.params) mg)
    (law : ∀ ns : List Int, ns.length ≤ 63 → (∀ z ∈ ns, Builtin.Int.intBits z ≤ 1048576) → ∃ h', M.F_law [.scr ns] [] = .ok (.bl true) h') :
    PySem.W.WalkO q loose XP YP l.row.toRowW d [] (fun f vs => PySem.call f vs) :=
  L2.walk_ofB (n := 63) (k := 6) (x := "_law_script") (CX := fun _ => L2.CX0) (sp := fun w vs H Q E => ∀ G, M.spN G (K w.params) 1 M.F_law vs H Q E) hn (by decide) hdf ⟨rfl, by decide, by decide⟩ hY (fun w mg fa h KX N hmg => by
    obtain ⟨G, T⟩ := F w mg h KX N
    obtain ⟨f, fd, Fl, m, b⟩ := T.lw
    have e : f = fa := by
      rw [hdn] at hmg
      rw [hmg] at m
      exact (Value.ref.inj (Option.some.inj m)).symm
    subst e
    exact ⟨fd, b, fun base _ _ => (M.all_ok T Fl).imp fun vs H Q E q => q G⟩) (fun w H a ns hl hb hO hS G => M.law_end hO hS (law ns hl hb)) fun _ _ _ _ _ z => z
end
open PySem PySem.W PyProof.Rows in
set_option maxRecDepth 100000 in
set_option maxHeartbeats 0 in
theorem PySem.Challenge.cw_dealtblocks_k01_rules_refused_holds : PySem.Challenge.rw_dealtblocks_k01_rules_refused.Holds := by
  w_on; o_law; k_head; (case hw => w_witness2)
  k_fill
  refine M.walk (l := PySem.Challenge.rw_dealtblocks_k01_rules_refused) rfl rfl rfl (fun w h Y => PySem.W.kIn_of Y) ?F M.law_true
  case F =>
    intro w mg h KX N
    refine' ⟨_, M.mkTx KX N ?gC0 ?pg0 ?hd0 ?po0 ?sa0 ?mk0 ?kc0 ?nf0_size ?nf0_rest ?nf0_dealing ?nf0_restoring ?nf0_finding ?gE0 ?ex0 ?ty0 ?ke0 ?ci0 ?a_law_begin ?l_law_begin ?c_law_begin ?k_law_begin ?a_law_draw ?l_law_draw ?c_law_draw ?k_law_draw ?a_law_parts ?l_law_parts ?c_law_parts ?k_law_parts ?a_is_choice ?l_is_choice ?c_is_choice ?k_is_choice ?lc0 ?xs0 ?xn0 ?a_BadRule_init ?t_BadRule_init ?l_BadRule_init ?c_BadRule_init ?k_BadRule_init ?a_Rule_init ?i_Rule_init ?l_Rule_init ?c_Rule_init ?k_Rule_init ?a_law_rule ?l_law_rule ?c_law_rule ?k_law_rule ?a_law_choices ?l_law_choices ?c_law_choices ?k_law_choices ?a_law_due ?l_law_due ?c_law_due ?k_law_due ?a_all_rules ?l_all_rules ?c_all_rules ?k_all_rules ?a_law_fields ?l_law_fields ?c_law_fields ?k_law_fields ?a_law_every ?l_law_every ?c_law_every ?k_law_every ?a_Rule_parts ?i_Rule_parts ?l_Rule_parts ?c_Rule_parts ?k_Rule_parts ?a_Rule_eq ?i_Rule_eq ?l_Rule_eq ?c_Rule_eq ?k_Rule_eq ?a_law ?l_law ?c_law ?k_law ?z_any ?z_bool ?z_int ?z_isinstance ?z_len ?z_list ?z_range ?z_str ?z_zip ?a_p_PARTS ?l_p_PARTS ?a_p_CHOICES ?l_p_CHOICES ?l_p_CHOICES_1 ?l_p_CHOICES_2 ?l_p_CHOICES_3 ?l_p_CHOICES_4 ?l_p_CHOICES_5 ?s0_0 ?xg0 ?xh0 ?xd0 ?ica0 ?icn0 ?ict0 ?icm0⟩
    (case gC0 => k_is)
    (case pg0 => k_is)
    (case hd0 => k_is)
    (case po0 => k_is)
    (case sa0 => k_is)
    (case mk0 => k_is)
    (case kc0 => k_is)
    (case nf0_size => k_is)
    (case nf0_rest => k_is)
    (case nf0_dealing => k_is)
    (case nf0_restoring => k_is)
    (case nf0_finding => k_is)
    (case gE0 => k_is)
    (case ex0 => k_is)
    (case ty0 => k_is)
    (case ke0 => k_is)
    (case ci0 => k_is)
    (case a_law_begin => k_is)
    (case l_law_begin => k_is)
    (case c_law_begin => k_is)
    (case k_law_begin => k_is)
    (case a_law_draw => k_is)
    (case l_law_draw => k_is)
    (case c_law_draw => k_is)
    (case k_law_draw => k_is)
    (case a_law_parts => k_is)
    (case l_law_parts => k_is)
    (case c_law_parts => k_is)
    (case k_law_parts => k_is)
    (case a_is_choice => k_is)
    (case l_is_choice => k_is)
    (case c_is_choice => k_is)
    (case k_is_choice => k_is)
    (case lc0 => k_is)
    (case xs0 => k_is)
    (case xn0 => k_is)
    (case a_BadRule_init => k_is)
    (case t_BadRule_init => k_is)
    (case l_BadRule_init => k_is)
    (case c_BadRule_init => k_is)
    (case k_BadRule_init => k_is)
    (case a_Rule_init => k_is)
    (case i_Rule_init => k_is)
    (case l_Rule_init => k_is)
    (case c_Rule_init => k_is)
    (case k_Rule_init => k_is)
    (case a_law_rule => k_is)
    (case l_law_rule => k_is)
    (case c_law_rule => k_is)
    (case k_law_rule => k_is)
    (case a_law_choices => k_is)
    (case l_law_choices => k_is)
    (case c_law_choices => k_is)
    (case k_law_choices => k_is)
    (case a_law_due => k_is)
    (case l_law_due => k_is)
    (case c_law_due => k_is)
    (case k_law_due => k_is)
    (case a_all_rules => k_is)
    (case l_all_rules => k_is)
    (case c_all_rules => k_is)
    (case k_all_rules => k_is)
    (case a_law_fields => k_is)
    (case l_law_fields => k_is)
    (case c_law_fields => k_is)
    (case k_law_fields => k_is)
    (case a_law_every => k_is)
    (case l_law_every => k_is)
    (case c_law_every => k_is)
    (case k_law_every => k_is)
    (case a_Rule_parts => k_is)
    (case i_Rule_parts => k_is)
    (case l_Rule_parts => k_is)
    (case c_Rule_parts => k_is)
    (case k_Rule_parts => k_is)
    (case a_Rule_eq => k_is)
    (case i_Rule_eq => k_is)
    (case l_Rule_eq => k_is)
    (case c_Rule_eq => k_is)
    (case k_Rule_eq => k_is)
    (case a_law => k_is)
    (case l_law => k_is)
    (case c_law => k_is)
    (case k_law => k_is)
    (case z_any => k_is)
    (case z_bool => k_is)
    (case z_int => k_is)
    (case z_isinstance => k_is)
    (case z_len => k_is)
    (case z_list => k_is)
    (case z_range => k_is)
    (case z_str => k_is)
    (case z_zip => k_is)
    (case a_p_PARTS => k_is)
    (case l_p_PARTS => k_is)
    (case a_p_CHOICES => k_is)
    (case l_p_CHOICES => k_is)
    (case l_p_CHOICES_1 => k_is)
    (case l_p_CHOICES_2 => k_is)
    (case l_p_CHOICES_3 => k_is)
    (case l_p_CHOICES_4 => k_is)
    (case l_p_CHOICES_5 => k_is)
    (case s0_0 => k_is)
    (case xg0 => k_is)
    (case xh0 => k_is)
    (case xd0 => k_is)
    (case ica0 => k_is)
    (case icn0 => k_is)
    (case ict0 => k_is)
    (case icm0 => k_is)
