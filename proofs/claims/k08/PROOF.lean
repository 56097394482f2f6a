import PyProof.Rows.All
import Wide.All
import OpenK.AllK
import Wide.FinOn
import HandS.ForMost
import HandS.ForExc
import HandS.IsInst
import HandS.Deep
import HandS.Style
import HandS.MakeKw
import HandS.MakeKwOnly
import HandS.Defaults
import HandS.SetFor
import HandS.More
import HandS.Remove
import HandS.TryMany
import HandS.ExcValue
import HandS.ExcIs
import HandS.Zip
import HandS.SetBool
import HandS.Strs
import HandS.SetKeys
import PyProof.DictMoreH
import HandS.Iter
import KE.KDictCopyH
import KE.KDictDisplayH
import HandS.DictComp
import HandS.ExcInit
import HandS.ExcField
import HandS.Conv
import HandS.Codes
import HandS.ClsMeth
import HandS.SortRule
import KE.KDictOf
import KE.KDictKeyed
import KE.KEqDict
import HandS.TupLen
import HandS.TupSets
import PySem.Challenge.RW_liarclocks_k08_meetings_refused
set_option Elab.async false
set_option linter.all false
set_option maxRecDepth 100000
set_option maxHeartbeats 4000000
/-! MiCore: the mirror's values, its heap, how they stand to HandS's abstract heap; transformers made of mirror functions. -/
namespace L2.Mi
open PySem PySem.Spec PyProof.Rows

/-- a value of the mirror: data by value, what is mutable by its number -/
inductive Dv where
  | non
  | bl (b : Bool)
  | int (i : Int)
  | str (x : Str)
  | lst (xs : List Dv)
  | kls (xs : List Dv)
  | tup (xs : List Dv)
  | dct (kvs : List Dv)
  | obj (i : Nat)
  | exc (c : Str) (xs : List Dv)
  | odd

inductive Cell where
  | dead
  | lst (xs : List Dv)
  | ins (C : Str) (fs : List (Str × Dv))
  | dct (kvs : List Dv)
def Cell.live : Cell → Bool
  | .dead => false
  | _ => true
abbrev MH := List Cell
/-- where the cells stand; what is just being made (hidden from all else) -/
structure Rho where
  map : Nat → Option Addr
  hid : List Addr

/-- the address of a live cell -/
def Live (ρ : Rho) (h : MH) (p : Addr) : Prop := (∃ i c, h[i]? = some c ∧ c.live = true ∧ ρ.map i = some p) ∨ p ∈ ρ.hid

def keyK : Dv → Option Key
  | .int i => some (.inl i)
  | .str x => some (.inr x)
  | _ => none
def keyKs : List Dv → Option (List Key)
  | [] => some []
  | d :: ds => match keyK d, keyKs ds with
    | some k, some ks => some (k :: ks)
    | _, _ => none
def keyT : Dv → Option (List Key)
  | .tup xs => keyKs xs
  | _ => none
/-- a dict's pairs -/
def pairs : List Dv → List Dv → List Dv
  | k :: ks, v :: vs => .tup [k, v] :: pairs ks vs
  | _, _ => []

/-- a constant of the module: a list, a tuple -/
def KL (K : PySem.W.Frag) (a : Addr) (xs : List V) : Prop := ∃ (o : Obj) (its : Array Value) (n : Nat), K.lookup a = some o ∧ o.cls = .type "list" ∧ o.dict = none ∧ o.data = .seq its n ∧ its.size ≤ sizeLine ∧ Vals xs its.toList
def KT (K : PySem.W.Frag) (a : Addr) (xs : List V) : Prop := ∃ (o : Obj) (its : Array Value) (n : Nat), K.lookup a = some o ∧ o.cls = .type "tuple" ∧ o.data = .seq its n ∧ its.size ≤ sizeLine ∧ Vals xs its.toList
/-- an exception's object -/
def ExcP (a Ca : Addr) (d : Option Addr) : Heap → Prop := fun hp => ∃ oe, hp.get? a = some oe ∧ Zc (.ref Ca) d oe ∧ ∃ vs, oe.data = .fields vs

/-- a dict of one pair, whose key is the tuple at q -/
def PinO (a : Addr) (o : Obj) : Heap → Prop := fun hp => hp.get? a = some o
def OddO (o : Obj) (q : Addr) : Prop := o.ExactDict ∧ ∃ (es : Array DictEntry) (ep : Nat) (en : DictEntry), o.data = .dict es ep ∧ es.size = 1 ∧ es[0]? = some en ∧ en.key = .ref q
mutual
inductive RelD (K : PySem.W.Frag) (cl : Str → Option Addr) (ρ : Rho) (h : MH) (H : Hp) : Dv → V → Prop
  | non : RelD K cl ρ h H .non .non
  | bl (b : Bool) : RelD K cl ρ h H (.bl b) (.bl b)
  | int (i : Int) : RelD K cl ρ h H (.int i) (.int i)
  | str (x : Str) : RelD K cl ρ h H (.str x) (.str x)
  | lst {a : Addr} {xs : List Dv} {vs : List V} : H a = some (.lst vs) → ¬ Live ρ h a → RelDs K cl ρ h H xs vs → RelD K cl ρ h H (.lst xs) (.ref a)
  | kls {a : Addr} {xs : List Dv} {vs : List V} : (Rd H a (.lst vs) ∧ ¬ Live ρ h a) ∨ KL K a vs → RelDs K cl ρ h H xs vs → RelD K cl ρ h H (.kls xs) (.ref a)
  | tup {a : Addr} {xs : List Dv} {vs : List V} : (H a = some (.tup vs) ∧ ¬ Live ρ h a) ∨ (KT K a vs ∧ vs = []) → RelDs K cl ρ h H xs vs → RelD K cl ρ h H (.tup xs) (.ref a)
  | dctK {a : Addr} {ks vs : List Dv} {kvs : List (Key × V)} : Rd H a (.dK kvs) → ¬ Live ρ h a → keyKs ks = some (kvs.map (·.1)) → RelDs K cl ρ h H vs (kvs.map (·.2)) → RelD K cl ρ h H (.dct (pairs ks vs)) (.ref a)
  | dctT {a : Addr} {ks vs : List Dv} {kvs : List (List Key × V)} : Rd H a (.dT kvs) → ¬ Live ρ h a → ks.map keyT = kvs.map (fun p => some p.1) → RelDs K cl ρ h H vs (kvs.map (·.2)) → RelD K cl ρ h H (.dct (.non :: pairs ks vs)) (.ref a)
  | obj {i : Nat} {a : Addr} : ρ.map i = some a → RelD K cl ρ h H (.obj i) (.ref a)
  | exc0 {a Ca : Addr} {c : Str} : cl c = some Ca → H a = some (.ext (ExcP a Ca none)) → ¬ Live ρ h a → RelD K cl ρ h H (.exc c []) (.ref a)
  | exc1 {a Ca b : Addr} {c : Str} {x : Dv} {u : V} : cl c = some Ca → H a = some (.ext (ExcP a Ca (some b))) → ¬ Live ρ h a → H b = some (.xd [(("house" : Str), u)]) → ¬ Live ρ h b → RelD K cl ρ h H x u → RelD K cl ρ h H (.exc c [x]) (.ref a)
  | odd {a q : Addr} {o : Obj} : H a = some (.ext (PinO a o)) → ¬ Live ρ h a → (a == sysModules) = false → OddO o q → H q = some (.tup [.bl true, .int 0]) → ¬ Live ρ h q → RelD K cl ρ h H .odd (.ref a)
inductive RelDs (K : PySem.W.Frag) (cl : Str → Option Addr) (ρ : Rho) (h : MH) (H : Hp) : List Dv → List V → Prop
  | nil : RelDs K cl ρ h H [] []
  | cons {x : Dv} {v : V} {xs : List Dv} {vs : List V} : RelD K cl ρ h H x v → RelDs K cl ρ h H xs vs → RelDs K cl ρ h H (x :: xs) (v :: vs)
end

/-- a dict's object, locked or not -/
def strip : HO → HO
  | .frz _ (.dK kvs) => .dK kvs
  | .frz _ (.dT kvs) => .dT kvs
  | o => o
def plainO : HO → Bool
  | .dK _ => false
  | .dT _ => false
  | .frz _ (.dK _) => false
  | .frz _ (.dT _) => false
  | _ => true
theorem strip_plain {o : HO} (h : plainO o = true) : strip o = o := by
  unfold strip
  split
  · cases h
  · cases h
  · rfl
theorem strip_eq {o o' : HO} (e : strip o' = strip o) (h : plainO o = true) : o' = o := by
  rw [strip_plain h] at e
  unfold strip at e
  split at e
  · subst e; cases h
  · subst e; cases h
  · exact e
/-- from one state of the mirror to a later one: what relations lean on -/
structure Ext0 (ρ : Rho) (h : MH) (H : Hp) (ρ' : Rho) (h' : MH) (H' : Hp) : Prop where
  rho : ∀ i a, ρ.map i = some a → ρ'.map i = some a
  keepS : ∀ p o, H p = some o → ¬ Live ρ h p → (∃ o', H' p = some o' ∧ strip o' = strip o) ∧ ¬ Live ρ' h' p
theorem Ext0.of {ρ ρ' : Rho} {h h' : MH} {H H' : Hp} (rho : ∀ i a, ρ.map i = some a → ρ'.map i = some a) (keep : ∀ p o, H p = some o → ¬ Live ρ h p → H' p = some o ∧ ¬ Live ρ' h' p) : Ext0 ρ h H ρ' h' H' :=
  ⟨rho, fun p o e n => ⟨⟨o, (keep p o e n).1, rfl⟩, (keep p o e n).2⟩⟩
/-- .. and what is locked stays so -/
structure Ext1 (ρ : Rho) (h : MH) (H : Hp) (ρ' : Rho) (h' : MH) (H' : Hp) : Prop extends Ext0 ρ h H ρ' h' H' where
  frz : ∀ p ob u, H p = some (.frz ob u) → ¬ Live ρ h p → H' p = some (.frz ob u)
theorem Ext1.of {ρ ρ' : Rho} {h h' : MH} {H H' : Hp} (rho : ∀ i a, ρ.map i = some a → ρ'.map i = some a) (keep : ∀ p o, H p = some o → ¬ Live ρ h p → H' p = some o ∧ ¬ Live ρ' h' p) : Ext1 ρ h H ρ' h' H' :=
  ⟨.of rho keep, fun p _ _ e n => (keep p _ e n).1⟩
theorem Ext0.keep {ρ ρ' : Rho} {h h' : MH} {H H' : Hp} (e : Ext0 ρ h H ρ' h' H') (p : Addr) (o : HO) (q : H p = some o) (n : ¬ Live ρ h p) (pl : plainO o = true) : H' p = some o ∧ ¬ Live ρ' h' p := by
  obtain ⟨⟨o', e1, e2⟩, n1⟩ := e.keepS p o q n
  rw [strip_eq e2 pl] at e1
  exact ⟨e1, n1⟩
/-- .. what is hidden stays -/
structure Ext (ρ : Rho) (h : MH) (H : Hp) (ρ' : Rho) (h' : MH) (H' : Hp) : Prop extends Ext1 ρ h H ρ' h' H' where
  hid : ∀ p ∈ ρ.hid, p ∈ ρ'.hid ∧ H' p = H p
  len : h.length ≤ h'.length

theorem Ext.refl (ρ : Rho) (h : MH) (H : Hp) : Ext ρ h H ρ h H := ⟨.of (fun _ _ e => e) fun _ _ e n => ⟨e, n⟩, fun _ m => ⟨m, rfl⟩, Nat.le_refl _⟩
theorem Ext.trans {ρ ρ1 ρ2 : Rho} {h h1 h2 : MH} {H H1 H2 : Hp} (a : Ext ρ h H ρ1 h1 H1) (b : Ext ρ1 h1 H1 ρ2 h2 H2) : Ext ρ h H ρ2 h2 H2 :=
  ⟨⟨⟨fun i x e => b.rho i x (a.rho i x e), fun p o e n => let ⟨⟨o1, e1, s1⟩, n1⟩ := a.keepS p o e n; let ⟨⟨o2, e2, s2⟩, n2⟩ := b.keepS p o1 e1 n1; ⟨⟨o2, e2, s2.trans s1⟩, n2⟩⟩, fun p ob u e n => b.frz p ob u (a.frz p ob u e n) (a.keepS p _ e n).2⟩, fun p m => ⟨(b.hid p (a.hid p m).1).1, (b.hid p (a.hid p m).1).2.trans (a.hid p m).2⟩, Nat.le_trans a.len b.len⟩
theorem Ext0.rd {ρ ρ' : Rho} {h h' : MH} {H H' : Hp} (e : Ext0 ρ h H ρ' h' H') {a : Addr} {u : HO} (r : Rd H a u) (n : ¬ Live ρ h a) (pl : plainO u = true) : Rd H' a u ∧ ¬ Live ρ' h' a := by
  rcases r with r | ⟨o, r⟩
  · obtain ⟨e1, n1⟩ := e.keep a _ r n pl
    exact ⟨.inl e1, n1⟩
  · obtain ⟨e1, n1⟩ := e.keep a _ r n (by cases u <;> first | rfl | exact pl)
    exact ⟨.inr ⟨o, e1⟩, n1⟩
theorem rd_strip {H : Hp} {a : Addr} {o u : HO} (e : H a = some o) (s : strip o = u) (pl : plainO u = false) (hu : ∀ ob v, u ≠ .frz ob v) : Rd H a u := by
  unfold strip at s
  split at s
  · subst s; exact .inr ⟨_, e⟩
  · subst s; exact .inr ⟨_, e⟩
  · subst s; exact .inl e
theorem Ext0.rdD {ρ ρ' : Rho} {h h' : MH} {H H' : Hp} (e : Ext0 ρ h H ρ' h' H') {a : Addr} {u : HO} (r : Rd H a u) (n : ¬ Live ρ h a) (hd : (∃ kvs, u = .dK kvs) ∨ ∃ kvs, u = .dT kvs) : Rd H' a u ∧ ¬ Live ρ' h' a := by
  have su : strip u = u ∧ plainO u = false ∧ ∀ ob v, u ≠ .frz ob v := by
    rcases hd with ⟨kvs, rfl⟩ | ⟨kvs, rfl⟩
    · exact ⟨rfl, rfl, fun _ _ z => nomatch z⟩
    · exact ⟨rfl, rfl, fun _ _ z => nomatch z⟩
  have sf : ∀ ob, strip (.frz ob u) = u := fun ob => by
    rcases hd with ⟨kvs, rfl⟩ | ⟨kvs, rfl⟩ <;> rfl
  rcases r with r | ⟨o, r⟩
  · obtain ⟨⟨o', e1, e2⟩, n1⟩ := e.keepS a _ r n
    exact ⟨rd_strip e1 (e2.trans su.1) su.2.1 su.2.2, n1⟩
  · obtain ⟨⟨o', e1, e2⟩, n1⟩ := e.keepS a _ r n
    exact ⟨rd_strip e1 (e2.trans (sf o)) su.2.1 su.2.2, n1⟩

section
variable {K : PySem.W.Frag} {cl : Str → Option Addr} {ρ ρ' : Rho} {h h' : MH} {H H' : Hp}
mutual
theorem RelD.mono0 (e : Ext0 ρ h H ρ' h' H') : ∀ {d : Dv} {v : V}, RelD K cl ρ h H d v → RelD K cl ρ' h' H' d v
  | _, _, .non => .non
  | _, _, .bl b => .bl b
  | _, _, .int i => .int i
  | _, _, .str x => .str x
  | _, _, .lst q n r => .lst (e.keep _ _ q n rfl).1 (e.keep _ _ q n rfl).2 (RelDs.mono0 e r)
  | _, _, .kls q r => .kls (q.elim (fun q => .inl (e.rd q.1 q.2 rfl)) .inr) (RelDs.mono0 e r)
  | _, _, .tup q r => .tup (q.elim (fun q => .inl (e.keep _ _ q.1 q.2 rfl)) .inr) (RelDs.mono0 e r)
  | _, _, .dctK q n k r => .dctK (e.rdD q n (.inl ⟨_, rfl⟩)).1 (e.rdD q n (.inl ⟨_, rfl⟩)).2 k (RelDs.mono0 e r)
  | _, _, .dctT q n k r => .dctT (e.rdD q n (.inr ⟨_, rfl⟩)).1 (e.rdD q n (.inr ⟨_, rfl⟩)).2 k (RelDs.mono0 e r)
  | _, _, .obj q => .obj (e.rho _ _ q)
  | _, _, .exc0 c q n => .exc0 c (e.keep _ _ q n rfl).1 (e.keep _ _ q n rfl).2
  | _, _, .exc1 c q n q2 n2 r => .exc1 c (e.keep _ _ q n rfl).1 (e.keep _ _ q n rfl).2 (e.keep _ _ q2 n2 rfl).1 (e.keep _ _ q2 n2 rfl).2 (RelD.mono0 e r)
  | _, _, .odd q n s od q2 n2 => .odd (e.keep _ _ q n rfl).1 (e.keep _ _ q n rfl).2 s od (e.keep _ _ q2 n2 rfl).1 (e.keep _ _ q2 n2 rfl).2
theorem RelDs.mono0 (e : Ext0 ρ h H ρ' h' H') : ∀ {ds : List Dv} {vs : List V}, RelDs K cl ρ h H ds vs → RelDs K cl ρ' h' H' ds vs
  | _, _, .nil => .nil
  | _, _, .cons r rs => .cons (RelD.mono0 e r) (RelDs.mono0 e rs)
end
theorem RelD.mono (e : Ext ρ h H ρ' h' H') {d : Dv} {v : V} (r : RelD K cl ρ h H d v) : RelD K cl ρ' h' H' d v := RelD.mono0 e.toExt0 r
theorem RelDs.mono (e : Ext ρ h H ρ' h' H') {d : List Dv} {v : List V} (r : RelDs K cl ρ h H d v) : RelDs K cl ρ' h' H' d v := RelDs.mono0 e.toExt0 r
theorem RelDs.length : ∀ {ds : List Dv} {vs : List V}, RelDs K cl ρ h H ds vs → ds.length = vs.length
  | _, _, .nil => rfl
  | _, _, .cons _ rs => congrArg Nat.succ rs.length
theorem RelDs.get : ∀ {ds : List Dv} {vs : List V} {i : Nat} {d : Dv}, RelDs K cl ρ h H ds vs → ds[i]? = some d → ∃ v, vs[i]? = some v ∧ RelD K cl ρ h H d v
  | _, _, _, _, .nil, e => by simp at e
  | _, _, 0, _, .cons r _, e => by simp at e; subst e; exact ⟨_, rfl, r⟩
  | _, _, i + 1, d, .cons _ t, e => by
    obtain ⟨v, h1, h2⟩ := RelDs.get (i := i) (d := d) t (by simpa using e)
    exact ⟨v, by simpa using h1, h2⟩
theorem RelDs.append : ∀ {xs ys : List Dv} {us ws : List V}, RelDs K cl ρ h H xs us → RelDs K cl ρ h H ys ws → RelDs K cl ρ h H (xs ++ ys) (us ++ ws)
  | _, _, _, _, .nil, s => s
  | _, _, _, _, .cons r t, s => .cons r (RelDs.append t s)
theorem RelDs.take : ∀ {xs : List Dv} {us : List V} (n : Nat), RelDs K cl ρ h H xs us → RelDs K cl ρ h H (xs.take n) (us.take n)
  | _, _, 0, _ => .nil
  | _, _, _ + 1, .nil => .nil
  | _, _, n + 1, .cons r t => .cons r (RelDs.take n t)
theorem RelDs.drop : ∀ {xs : List Dv} {us : List V} (n : Nat), RelDs K cl ρ h H xs us → RelDs K cl ρ h H (xs.drop n) (us.drop n)
  | _, _, 0, r => r
  | _, _, _ + 1, .nil => .nil
  | _, _, n + 1, .cons _ t => RelDs.drop n t
theorem RelDs.set {x : Dv} {u : V} (r : RelD K cl ρ h H x u) : ∀ {xs : List Dv} {us : List V} (i : Nat), RelDs K cl ρ h H xs us → RelDs K cl ρ h H (xs.set i x) (us.set i u)
  | _, _, _, .nil => .nil
  | _, _, 0, .cons _ t => .cons r t
  | _, _, i + 1, .cons q t => .cons q (RelDs.set r i t)
theorem RelDs.reverse {xs : List Dv} {us : List V} (r : RelDs K cl ρ h H xs us) : RelDs K cl ρ h H xs.reverse us.reverse := by
  induction xs generalizing us with
  | nil => cases r; exact .nil
  | cons x xs ih =>
    cases r with
    | cons r t =>
      rw [List.reverse_cons, List.reverse_cons]
      exact (ih t).append (.cons r .nil)
theorem RelDs.ints : ∀ (ns : List Int), RelDs K cl ρ h H (ns.map Dv.int) (ns.map V.int)
  | [] => .nil
  | n :: ns => .cons (.int n) (RelDs.ints ns)
end

/-- what a cell says of its address -/
def CellR (K : PySem.W.Frag) (cl : Str → Option Addr) (ρ : Rho) (h : MH) (H : Hp) (a : Addr) : Cell → Prop
  | .dead => True
  | .lst xs => ∃ vs, H a = some (.lst vs) ∧ RelDs K cl ρ h H xs vs
  | .ins C fs => ∃ Ca dx vfs, cl C = some Ca ∧ H a = some (.ins Ca dx vfs) ∧ fs.map (·.1) = vfs.map (·.1) ∧ RelDs K cl ρ h H (fs.map (·.2)) (vfs.map (·.2))
  | .dct ds => ∃ ks vs, (ds = pairs ks vs ∧ ∃ kvs : List (Key × V), H a = some (.dK kvs) ∧ keyKs ks = some (kvs.map (·.1)) ∧ RelDs K cl ρ h H vs (kvs.map (·.2))) ∨
       (ds = .non :: pairs ks vs ∧ ∃ kvs : List (List Key × V), H a = some (.dT kvs) ∧ ks.map keyT = kvs.map (fun p => some p.1) ∧ RelDs K cl ρ h H vs (kvs.map (·.2)))
/-- the mirror's heap is held -/
structure HRel (K : PySem.W.Frag) (cl : Str → Option Addr) (ρ : Rho) (h : MH) (H : Hp) : Prop where
  cells : ∀ i c, h[i]? = some c → ∃ a, ρ.map i = some a ∧ CellR K cl ρ h H a c
  inj : ∀ i j c d a, h[i]? = some c → h[j]? = some d → c.live = true → d.live = true → ρ.map i = some a → ρ.map j = some a → i = j
  out : ∀ i, h.length ≤ i → ρ.map i = none
  hidS : ∀ p ∈ ρ.hid, (∃ o, H p = some o) ∧ ∀ i c, h[i]? = some c → c.live = true → ρ.map i ≠ some p
  hidT : ∀ p ∈ ρ.hid, ∀ vs, H p ≠ some (.tup vs)

def EnvR (K : PySem.W.Frag) (cl : Str → Option Addr) (ρ : Rho) (h : MH) (H : Hp) (τ : List (Option Dv)) (σ : St) : Prop :=
  τ.length = σ.length ∧ ∀ (i : Nat) (d : Dv), τ[i]? = some (some d) → ∃ v, σ[i]? = some (some v) ∧ RelD K cl ρ h H d v

section
variable {K : PySem.W.Frag} {cl : Str → Option Addr} {ρ ρ' : Rho} {h h' : MH} {H H' : Hp}
theorem EnvR.mono0 {τ : List (Option Dv)} {σ : St} (r : EnvR K cl ρ h H τ σ) (e : Ext0 ρ h H ρ' h' H') : EnvR K cl ρ' h' H' τ σ :=
  ⟨r.1, fun i d q => let ⟨v, e1, r1⟩ := r.2 i d q; ⟨v, e1, RelD.mono0 e r1⟩⟩
theorem EnvR.mono {τ : List (Option Dv)} {σ : St} (r : EnvR K cl ρ h H τ σ) (e : Ext ρ h H ρ' h' H') : EnvR K cl ρ' h' H' τ σ := r.mono0 e.toExt0
theorem EnvR.set {τ : List (Option Dv)} {σ : St} (r : EnvR K cl ρ h H τ σ) (i : Nat) {d : Dv} {v : V} (rd : RelD K cl ρ h H d v) : EnvR K cl ρ h H (τ.set i (some d)) (σ.set i (some v)) := by
  refine ⟨by rw [List.length_set, List.length_set]; exact r.1, fun j x e => ?_⟩
  by_cases hj : i = j
  · subst hj
    by_cases hl : i < τ.length
    · rw [List.getElem?_set_self hl] at e
      have e' : d = x := by simpa using e
      subst e'
      exact ⟨v, List.getElem?_set_self (by rw [← r.1]; exact hl), rd⟩
    · rw [List.getElem?_eq_none (by simpa using hl)] at e; cases e
  · rw [List.getElem?_set_ne hj] at e ⊢
    exact r.2 j x e
theorem EnvR.unset {τ : List (Option Dv)} {σ : St} (r : EnvR K cl ρ h H τ σ) (i : Nat) : EnvR K cl ρ h H (τ.set i none) (σ.set i none) := by
  refine ⟨by rw [List.length_set, List.length_set]; exact r.1, fun j x e => ?_⟩
  by_cases hj : i = j
  · subst hj
    by_cases hl : i < τ.length
    · rw [List.getElem?_set_self hl] at e; cases e
    · rw [List.getElem?_eq_none (by simpa using hl)] at e; cases e
  · rw [List.getElem?_set_ne hj] at e ⊢
    exact r.2 j x e
end

/-! ### results -/
inductive Res (α : Type) where
  | ok (a : α) (h : MH)
  | err (c : Str) (xs : List Dv) (h : MH)
  | stuck
def Res.bind {α β : Type} (r : Res α) (f : α → MH → Res β) : Res β :=
  match r with
  | .ok a h => f a h
  | .err c xs h => .err c xs h
  | .stuck => .stuck
@[simp] theorem Res.bind_ok {α β : Type} (a : α) (h : MH) (f : α → MH → Res β) : (Res.ok a h).bind f = f a h := rfl
@[simp] theorem Res.bind_err {α β : Type} (c : Str) (xs : List Dv) (h : MH) (f : α → MH → Res β) : (Res.err c xs h).bind f = .err c xs h := rfl
@[simp] theorem Res.bind_stuck {α β : Type} (f : α → MH → Res β) : (Res.stuck).bind f = .stuck := rfl
abbrev MEnv := List (Option Dv)
abbrev ME := MEnv → MH → Res Dv
abbrev MA := MEnv → MH → Res (List Dv)
abbrev MT := MEnv → MH → Res Bool
inductive RS where
  | nx (τ : MEnv) (h : MH)
  | rt (d : Dv) (h : MH)
  | bk (τ : MEnv) (h : MH)
  | ct (τ : MEnv) (h : MH)
  | err (c : Str) (xs : List Dv) (τ : MEnv) (h : MH)
  | stuck
abbrev MS := MEnv → MH → RS
abbrev MF := List Dv → MH → Res Dv

/-- an exception in the air -/
def ExcR (K : PySem.W.Frag) (cl : Str → Option Addr) (ρ : Rho) (h : MH) (H : Hp) (c : Str) (xs : List Dv) (cv : Value) (dd : Option Addr) : Prop :=
  ∃ Ca, cl c = some Ca ∧ cv = .ref Ca ∧ ((xs = [] ∧ dd = none) ∨ ∃ x u a, xs = [x] ∧ dd = some a ∧ H a = some (.xd [(("house" : Str), u)]) ∧ ¬ Live ρ h a ∧ RelD K cl ρ h H x u)

def Post {α β : Type} (K : PySem.W.Frag) (cl : Str → Option Addr) (Rl : Rho → MH → Hp → α → β → Prop) (W : WX) (σ : St) (ρ : Rho) (h : MH) (H : Hp) (r : Res α) (Q : β → Hp → Prop) : Prop :=
  match r with
  | .ok a h' => ∀ ρ' H' b, HRel K cl ρ' h' H' → Ext ρ h H ρ' h' H' → Rl ρ' h' H' a b → Q b H'
  | .err c xs h' => ∀ ρ' H' cv dd, HRel K cl ρ' h' H' → Ext ρ h H ρ' h' H' → ExcR K cl ρ' h' H' c xs cv dd → W cv dd σ H'
  | .stuck => False

theorem Post.later {α β : Type} {K : PySem.W.Frag} {cl : Str → Option Addr} {Rl : Rho → MH → Hp → α → β → Prop} {W : WX} {σ : St} {ρ ρ1 : Rho} {h h1 : MH} {H H1 : Hp} {r : Res α} {Q : β → Hp → Prop}
    (p : Post K cl Rl W σ ρ h H r Q) (e : Ext ρ h H ρ1 h1 H1) : Post K cl Rl W σ ρ1 h1 H1 r Q := by
  cases r with
  | ok a h' => exact fun ρ' H' b hr e' rl => p ρ' H' b hr (e.trans e') rl
  | err c xs h' => exact fun ρ' H' cv dd hr e' x => p ρ' H' cv dd hr (e.trans e') x
  | stuck => exact p
theorem Post.imp {α β : Type} {K : PySem.W.Frag} {cl : Str → Option Addr} {Rl : Rho → MH → Hp → α → β → Prop} {W : WX} {σ : St} {ρ : Rho} {h : MH} {H : Hp} {r : Res α} {Q Q' : β → Hp → Prop}
    (p : Post K cl Rl W σ ρ h H r Q) (hq : ∀ b H', Q b H' → Q' b H') : Post K cl Rl W σ ρ h H r Q' := by
  cases r with
  | ok a h' => exact fun ρ' H' b hr e' rl => hq _ _ (p ρ' H' b hr e' rl)
  | err c xs h' => exact p
  | stuck => exact p

/-- the transformer of a mirror function -/
def tM {α β : Type} (K : PySem.W.Frag) (cl : Str → Option Addr) (Rl : Rho → MH → Hp → α → β → Prop) (W : WX) (m : MEnv → MH → Res α) : St → Hp → (β → Hp → Prop) → Prop := fun σ H Q =>
  ∃ τ ρ h, HRel K cl ρ h H ∧ EnvR K cl ρ h H τ σ ∧ Post K cl Rl W σ ρ h H (m τ h) Q
abbrev RD (K : PySem.W.Frag) (cl : Str → Option Addr) : Rho → MH → Hp → Dv → V → Prop := fun ρ h H d v => RelD K cl ρ h H d v
abbrev RDs (K : PySem.W.Frag) (cl : Str → Option Addr) : Rho → MH → Hp → List Dv → List V → Prop := fun ρ h H d v => RelDs K cl ρ h H d v
abbrev RB : Rho → MH → Hp → Bool → Bool → Prop := fun _ _ _ a b => a = b

def PostS (K : PySem.W.Frag) (cl : Str → Option Addr) (W : WX) (D : Ends) (ρ : Rho) (h : MH) (H : Hp) : RS → Prop
  | .nx τ' h' => ∀ ρ' H' σ', HRel K cl ρ' h' H' → Ext ρ h H ρ' h' H' → EnvR K cl ρ' h' H' τ' σ' → D.nx σ' H'
  | .rt d h' => ∀ ρ' H' v, HRel K cl ρ' h' H' → Ext ρ h H ρ' h' H' → RelD K cl ρ' h' H' d v → D.rt v H'
  | .bk τ' h' => ∀ ρ' H' σ', HRel K cl ρ' h' H' → Ext ρ h H ρ' h' H' → EnvR K cl ρ' h' H' τ' σ' → D.bk σ' H'
  | .ct τ' h' => ∀ ρ' H' σ', HRel K cl ρ' h' H' → Ext ρ h H ρ' h' H' → EnvR K cl ρ' h' H' τ' σ' → D.ct σ' H'
  | .err c xs τ' h' => ∀ ρ' H' σ' cv dd, HRel K cl ρ' h' H' → Ext ρ h H ρ' h' H' → EnvR K cl ρ' h' H' τ' σ' → ExcR K cl ρ' h' H' c xs cv dd → W cv dd σ' H'
  | .stuck => False
theorem PostS.later {K : PySem.W.Frag} {cl : Str → Option Addr} {W : WX} {D : Ends} {ρ ρ1 : Rho} {h h1 : MH} {H H1 : Hp} {r : RS}
    (p : PostS K cl W D ρ h H r) (e : Ext ρ h H ρ1 h1 H1) : PostS K cl W D ρ1 h1 H1 r := by
  cases r with
  | nx τ h' => exact fun ρ' H' b hr e' rl => p ρ' H' b hr (e.trans e') rl
  | rt τ h' => exact fun ρ' H' b hr e' rl => p ρ' H' b hr (e.trans e') rl
  | bk τ h' => exact fun ρ' H' b hr e' rl => p ρ' H' b hr (e.trans e') rl
  | ct τ h' => exact fun ρ' H' b hr e' rl => p ρ' H' b hr (e.trans e') rl
  | err c xs τ h' => exact fun ρ' H' σ' cv dd hr e' rl x => p ρ' H' σ' cv dd hr (e.trans e') rl x
  | stuck => exact p
def tS (K : PySem.W.Frag) (cl : Str → Option Addr) (W : WX) (m : MS) : TS := fun D σ H =>
  ∃ τ ρ h, HRel K cl ρ h H ∧ EnvR K cl ρ h H τ σ ∧ PostS K cl W D ρ h H (m τ h)

/-! ### the judgements of the mirror -/
abbrev JE (cl : Str → Option Addr) (W : WX) (X : Cx) (e : Expr) (m : ME) : Prop := PE X e (tM X.K cl (RD X.K cl) W m)
abbrev JT (cl : Str → Option Addr) (W : WX) (X : Cx) (e : Expr) (m : MT) : Prop := PT X e (tM X.K cl RB W m)
abbrev JA (cl : Str → Option Addr) (W : WX) (X : Cx) (es : List Expr) (m : MA) : Prop := PA X es (tM X.K cl (RDs X.K cl) W m)
abbrev JS (cl : Str → Option Addr) (W : WX) (X : Cx) (st : Stmt) (m : MS) : Prop := PS X st (tS X.K cl W m)
abbrev JSs (cl : Str → Option Addr) (W : WX) (X : Cx) (st : List Stmt) (m : MS) : Prop := PSs X st (tS X.K cl W m)

theorem pe_imp {X : Cx} {e : Expr} {t t' : TE} (h : PE X e t) (i : ∀ σ H Q, t' σ H Q → t σ H Q) : PE X e t' := ⟨fun pins s σ H Q I q => h.run pins s σ H Q I (i _ _ _ q)⟩
theorem pt_imp {X : Cx} {e : Expr} {t t' : TT} (h : PT X e t) (i : ∀ σ H Q, t' σ H Q → t σ H Q) : PT X e t' := ⟨fun pins s σ H Q I q => h.run pins s σ H Q I (i _ _ _ q)⟩
theorem pw_imp {X : Cx} {e : Expr} {t t' : TT} (h : PW X e t) (i : ∀ σ H Q, t' σ H Q → t σ H Q) : PW X e t' := ⟨fun wh pins s σ H Q I q => h.run wh pins s σ H Q I (i _ _ _ q)⟩
theorem pa_imp {X : Cx} {e : List Expr} {t t' : TA} (h : PA X e t) (i : ∀ σ H Q, t' σ H Q → t σ H Q) : PA X e t' := ⟨fun pos pins s σ H Q I q => h.run pos pins s σ H Q I (i _ _ _ q)⟩
theorem ps_imp {X : Cx} {e : Stmt} {t t' : TS} (h : PS X e t) (i : ∀ D σ H, t' D σ H → t D σ H) : PS X e t' := ⟨fun pins s σ H D I q => h.run pins s σ H D I (i _ _ _ q)⟩
theorem pss_imp {X : Cx} {e : List Stmt} {t t' : TS} (h : PSs X e t) (i : ∀ D σ H, t' D σ H → t D σ H) : PSs X e t' := ⟨fun pins s σ H D I q => h.run pins s σ H D I (i _ _ _ q)⟩

theorem Post.bind {α β α2 β2 : Type} {K : PySem.W.Frag} {cl : Str → Option Addr} {R1 : Rho → MH → Hp → α → β → Prop} {R2 : Rho → MH → Hp → α2 → β2 → Prop} {W : WX} {σ : St} {ρ : Rho} {h : MH} {H : Hp} {r : Res α} {f : α → MH → Res α2} {Q : β2 → Hp → Prop} {Q1 : β → Hp → Prop}
    (p : Post K cl R2 W σ ρ h H (r.bind f) Q)
    (k : ∀ a h1 ρ1 H1 b, HRel K cl ρ1 h1 H1 → Ext ρ h H ρ1 h1 H1 → R1 ρ1 h1 H1 a b → Post K cl R2 W σ ρ1 h1 H1 (f a h1) Q → Q1 b H1) : Post K cl R1 W σ ρ h H r Q1 := by
  cases r with
  | ok a h1 => exact fun ρ1 H1 b hr1 e1 rl => k a h1 ρ1 H1 b hr1 e1 rl (Post.later (r := f a h1) p e1)
  | err c xs h1 => exact p
  | stuck => exact p
/-- first m1, then what follows: from the transformer of m1.bind to that of m1 -/
theorem tM_bind {α β α2 β2 : Type} {K : PySem.W.Frag} {cl : Str → Option Addr} {R1 : Rho → MH → Hp → α → β → Prop} {R2 : Rho → MH → Hp → α2 → β2 → Prop} {W : WX} {m1 : MEnv → MH → Res α} {f : MEnv → α → MH → Res α2}
    {σ : St} {H : Hp} {Q : β2 → Hp → Prop} {Q1 : β → Hp → Prop}
    (q : tM K cl R2 W (fun τ h => (m1 τ h).bind (f τ)) σ H Q)
    (k : ∀ τ ρ1 h1 H1 a b, HRel K cl ρ1 h1 H1 → EnvR K cl ρ1 h1 H1 τ σ → R1 ρ1 h1 H1 a b → Post K cl R2 W σ ρ1 h1 H1 (f τ a h1) Q → Q1 b H1) : tM K cl R1 W m1 σ H Q1 := by
  obtain ⟨τ, ρ, h, hr, er, p⟩ := q
  exact ⟨τ, ρ, h, hr, er, Post.bind p fun a h1 ρ1 H1 b hr1 e1 rl p1 => k τ ρ1 h1 H1 a b hr1 (er.mono e1) rl p1⟩
end L2.Mi

/-! MiHeap: the mirror's heap and the abstract heap, step by step. -/
namespace L2.Mi
open PySem PySem.Spec PyProof.Rows
section
variable {K : PySem.W.Frag} {cl : Str → Option Addr} {ρ ρ' : Rho} {h h' : MH} {H H' : Hp}

theorem HRel.live (r : HRel K cl ρ h H) {p : Addr} (l : Live ρ h p) : ∃ o, H p = some o := by
  rcases l with ⟨i, c, hc, hl, hp⟩ | hm
  · obtain ⟨a, ha, q⟩ := r.cells i c hc
    rw [hp] at ha
    cases ha
    cases c with
    | dead => cases hl
    | lst xs => obtain ⟨vs, e, _⟩ := q; exact ⟨_, e⟩
    | ins C fs => obtain ⟨Ca, dx, vfs, _, e, _⟩ := q; exact ⟨_, e⟩
    | dct ds =>
      obtain ⟨ks, vs, q⟩ := q
      rcases q with ⟨_, kvs, e, _⟩ | ⟨_, kvs, e, _⟩
      · exact ⟨_, e⟩
      · exact ⟨_, e⟩
  · exact (r.hidS p hm).1
theorem HRel.not_live (r : HRel K cl ρ h H) {p : Addr} (e : H p = none) : ¬ Live ρ h p := fun l => by
  obtain ⟨o, q⟩ := r.live l
  rw [e] at q; cases q
theorem CellR.mono0 {a : Addr} {c : Cell} (e : Ext0 ρ h H ρ' h' H') (ha : H' a = H a) (q : CellR K cl ρ h H a c) : CellR K cl ρ' h' H' a c := by
  cases c with
  | dead => trivial
  | lst xs => obtain ⟨vs, e1, r⟩ := q; exact ⟨vs, ha.trans e1, RelDs.mono0 e r⟩
  | ins C fs => obtain ⟨Ca, dx, vfs, e0, e1, e2, r⟩ := q; exact ⟨Ca, dx, vfs, e0, ha.trans e1, e2, RelDs.mono0 e r⟩
  | dct ds =>
    obtain ⟨ks, vs, q⟩ := q
    refine ⟨ks, vs, ?_⟩
    rcases q with ⟨e0, kvs, e1, e2, r⟩ | ⟨e0, kvs, e1, e2, r⟩
    · exact .inl ⟨e0, kvs, ha.trans e1, e2, RelDs.mono0 e r⟩
    · exact .inr ⟨e0, kvs, ha.trans e1, e2, RelDs.mono0 e r⟩
theorem CellR.mono {a : Addr} {c : Cell} (e : Ext ρ h H ρ' h' H') (ha : H' a = H a) (q : CellR K cl ρ h H a c) : CellR K cl ρ' h' H' a c := CellR.mono0 e.toExt0 ha q
theorem CellR.dead {a : Addr} {c : Cell} (hc : ¬ c.live = true) : CellR K cl ρ h H a c := by
  cases c with
  | dead => trivial
  | lst _ => exact absurd rfl hc
  | ins _ _ => exact absurd rfl hc
  | dct _ => exact absurd rfl hc

/-- a new object that is no cell -/
theorem HRel.newV (r : HRel K cl ρ h H) {p : Addr} {o : HO} (hp : H p = none) : HRel K cl ρ h (upd H p o) ∧ Ext ρ h H ρ h (upd H p o) ∧ ¬ Live ρ h p := by
  have nl := r.not_live hp
  have ex : Ext ρ h H ρ h (upd H p o) := ⟨.of (fun _ _ e => e) fun q u e n => ⟨by rw [upd_ne (ne_of_none e hp)]; exact e, n⟩, fun q m => ⟨m, upd_ne fun z => nl (.inr (z ▸ m))⟩, Nat.le_refl _⟩
  refine ⟨⟨fun i c hc => ?_, r.inj, r.out, fun q m => ⟨?_, (r.hidS q m).2⟩, fun q m vs e => r.hidT q m vs (by rw [upd_ne (show q ≠ p from fun z => nl (.inr (z ▸ m)))] at e; exact e)⟩, ex, nl⟩
  · obtain ⟨a, ha, q⟩ := r.cells i c hc
    refine ⟨a, ha, ?_⟩
    by_cases hl : c.live = true
    · obtain ⟨o', ho'⟩ := r.live (p := a) (.inl ⟨i, c, hc, hl, ha⟩)
      exact CellR.mono ex (upd_ne (ne_of_none ho' hp)) q
    · exact CellR.dead hl
  · obtain ⟨o', ho'⟩ := (r.hidS q m).1
    exact ⟨o', by rw [upd_ne (ne_of_none ho' hp)]; exact ho'⟩
/-- what is being made, hidden -/
def Rho.hide (ρ : Rho) (p : Addr) : Rho := ⟨ρ.map, p :: ρ.hid⟩
theorem HRel.hideNew (r : HRel K cl ρ h H) {p : Addr} {o : HO} (hp : H p = none) (no : ∀ vs, o ≠ .tup vs := by intro _ z; cases z) : HRel K cl (ρ.hide p) h (upd H p o) ∧ Ext ρ h H (ρ.hide p) h (upd H p o) := by
  have nl := r.not_live hp
  have ex : Ext ρ h H (ρ.hide p) h (upd H p o) := ⟨.of (fun _ _ e => e) fun q u e n => ⟨by rw [upd_ne (ne_of_none e hp)]; exact e, fun l => by
    rcases l with l | l
    · exact n (.inl l)
    · rcases List.mem_cons.mp l with z | l
      · rw [z, hp] at e; cases e
      · exact n (.inr l)⟩, fun q m => ⟨List.mem_cons_of_mem _ m, upd_ne fun z => nl (.inr (z ▸ m))⟩, Nat.le_refl _⟩
  refine ⟨⟨fun i c hc => ?_, r.inj, r.out, fun q m => ?_, fun q m vs e => ?_⟩, ex⟩
  · obtain ⟨a, ha, q⟩ := r.cells i c hc
    refine ⟨a, ha, ?_⟩
    by_cases hl : c.live = true
    · obtain ⟨o', ho'⟩ := r.live (p := a) (.inl ⟨i, c, hc, hl, ha⟩)
      exact CellR.mono ex (upd_ne (ne_of_none ho' hp)) q
    · exact CellR.dead hl
  · rcases List.mem_cons.mp m with z | m
    · subst z
      exact ⟨⟨o, upd_same⟩, fun i c hc hl e => nl (.inl ⟨i, c, hc, hl, e⟩)⟩
    · obtain ⟨⟨o', ho'⟩, h2⟩ := r.hidS q m
      exact ⟨⟨o', by rw [upd_ne (ne_of_none ho' hp)]; exact ho'⟩, h2⟩
  · by_cases z : q = p
    · subst z
      rw [upd_same] at e
      exact no vs (Option.some.inj e)
    · rcases List.mem_cons.mp m with w | m
      · exact z w
      · rw [upd_ne z] at e
        exact r.hidT q m vs e
/-- what is hidden changes -/
theorem HRel.hidW (r : HRel K cl ρ h H) {p : Addr} {o : HO} (m : p ∈ ρ.hid) (no : ∀ vs, o ≠ .tup vs := by intro _ z; cases z) : HRel K cl ρ h (upd H p o) ∧ Ext1 ρ h H ρ h (upd H p o) := by
  have ex : Ext1 ρ h H ρ h (upd H p o) := .of (fun _ _ e => e) fun q u e n => ⟨by rw [upd_ne (fun z => by subst z; exact n (.inr m))]; exact e, n⟩
  refine ⟨⟨fun i c hc => ?_, r.inj, r.out, fun q m' => ⟨?_, (r.hidS q m').2⟩, fun q m' vs e => by
    by_cases z : q = p
    · subst z
      rw [upd_same] at e
      exact no vs (Option.some.inj e)
    · rw [upd_ne z] at e
      exact r.hidT q m' vs e⟩, ex⟩
  · obtain ⟨a, ha, q⟩ := r.cells i c hc
    refine ⟨a, ha, ?_⟩
    by_cases hl : c.live = true
    · exact CellR.mono0 ex.toExt0 (upd_ne fun z => (r.hidS p m).2 i c hc hl (z ▸ ha)) q
    · exact CellR.dead hl
  · by_cases e : q = p
    · subst e; exact ⟨o, upd_same⟩
    · obtain ⟨o', ho'⟩ := (r.hidS q m').1
      exact ⟨o', by rw [upd_ne e]; exact ho'⟩
/-- .. seen from where it was not yet -/
theorem Ext.hidW {ρ₀ : Rho} {h₀ : MH} {H₀ : Hp} (r₀ : HRel K cl ρ₀ h₀ H₀) (e : Ext ρ₀ h₀ H₀ ρ h H) {p : Addr} {o : HO} (hp : H₀ p = none) : Ext ρ₀ h₀ H₀ ρ h (upd H p o) := by
  refine ⟨⟨⟨e.rho, fun q u eq n => ?_⟩, fun q ob u eq n => by rw [upd_ne (ne_of_none eq hp)]; exact e.frz q ob u eq n⟩, fun q m => ?_, e.len⟩
  · obtain ⟨⟨o', e1, s1⟩, n1⟩ := e.keepS q u eq n
    exact ⟨⟨o', by rw [upd_ne (ne_of_none eq hp)]; exact e1, s1⟩, n1⟩
  · obtain ⟨o', ho'⟩ := (r₀.hidS q m).1
    obtain ⟨m1, e1⟩ := e.hid q m
    exact ⟨m1, by rw [upd_ne (ne_of_none ho' hp)]; exact e1⟩
/-- what was hidden within is seen again -/
theorem HRel.unhide (r : HRel K cl ρ h H) {ρ₀ : Rho} {h₀ : MH} {H₀ : Hp} (e : Ext ρ₀ h₀ H₀ ρ h H) : HRel K cl ⟨ρ.map, ρ₀.hid⟩ h H ∧ Ext1 ρ h H ⟨ρ.map, ρ₀.hid⟩ h H ∧ Ext ρ₀ h₀ H₀ ⟨ρ.map, ρ₀.hid⟩ h H := by
  have sub : ∀ q, Live ⟨ρ.map, ρ₀.hid⟩ h q → Live ρ h q := fun q l => by
    rcases l with l | l
    · exact .inl l
    · exact .inr (e.hid q l).1
  have ex : Ext1 ρ h H ⟨ρ.map, ρ₀.hid⟩ h H := .of (fun _ _ e => e) fun q u eq n => ⟨eq, fun l => n (sub q l)⟩
  refine ⟨⟨fun i c hc => ?_, r.inj, r.out, fun q m => r.hidS q (e.hid q m).1, fun q m => r.hidT q (e.hid q m).1⟩, ex, ⟨⟨⟨e.rho, fun q u eq n => ?_⟩, e.frz⟩, fun q m => ⟨m, (e.hid q m).2⟩, e.len⟩⟩
  · obtain ⟨a, ha, q⟩ := r.cells i c hc
    exact ⟨a, ha, CellR.mono0 ex.toExt0 rfl q⟩
  · obtain ⟨e1, n1⟩ := e.keepS q u eq n
    exact ⟨e1, fun l => n1 (sub q l)⟩

/-- a new cell -/
def Rho.push (ρ : Rho) (n : Nat) (p : Addr) : Rho := ⟨fun i => if i = n then some p else ρ.map i, ρ.hid⟩
theorem Rho.push_same {ρ : Rho} {n : Nat} {p : Addr} : (Rho.push ρ n p).map n = some p := by unfold Rho.push; dsimp only; rw [if_pos rfl]
theorem Rho.push_ne {ρ : Rho} {n i : Nat} {p : Addr} (h : i ≠ n) : (Rho.push ρ n p).map i = ρ.map i := by unfold Rho.push; dsimp only; rw [if_neg h]
theorem live_push {p q : Addr} {c : Cell} (l : Live (Rho.push ρ h.length p) (h ++ [c]) q) : q = p ∨ Live ρ h q := by
  rcases l with ⟨i, d, hd, hl, hq⟩ | m
  · by_cases hi : i = h.length
    · subst hi
      rw [Rho.push_same] at hq
      cases hq
      exact .inl rfl
    · rw [Rho.push_ne hi] at hq
      have lt : i < h.length := by
        have h1 := (List.getElem?_eq_some_iff.mp hd).1
        rw [List.length_append, List.length_singleton] at h1
        omega
      rw [List.getElem?_append_left lt] at hd
      exact .inr (.inl ⟨i, d, hd, hl, hq⟩)
  · exact .inr (.inr m)
/-- the heap H' agrees with H but at p, which is new; c holds there -/
theorem HRel.push (r : HRel K cl ρ h H) {p : Addr} {c : Cell} (hp : H p = none) (hH : ∀ q o, H q = some o → H' q = some o) (hc : Ext ρ h H (Rho.push ρ h.length p) (h ++ [c]) H' → CellR K cl (Rho.push ρ h.length p) (h ++ [c]) H' p c) :
    HRel K cl (Rho.push ρ h.length p) (h ++ [c]) H' ∧ Ext ρ h H (Rho.push ρ h.length p) (h ++ [c]) H' := by
  have ex : Ext ρ h H (Rho.push ρ h.length p) (h ++ [c]) H' := by
    refine ⟨.of (fun i a e => ?_) (fun q o e n => ⟨hH q o e, fun l => ?_⟩), fun q m => ⟨m, ?_⟩, by simp⟩
    · rw [Rho.push_ne]
      · exact e
      · intro z
        have h2 := r.out i (by omega)
        rw [h2] at e; cases e
    · rcases live_push l with z | z
      · subst z; rw [hp] at e; cases e
      · exact n z
    · obtain ⟨o', ho'⟩ := (r.hidS q m).1
      exact (hH q o' ho').trans ho'.symm
  have old : ∀ {i : Nat} {d : Cell}, (h ++ [c])[i]? = some d → i ≠ h.length → h[i]? = some d := fun {i d} e hi => by
    have h1 := (List.getElem?_eq_some_iff.mp e).1
    rw [List.length_append, List.length_singleton] at h1
    rw [List.getElem?_append_left (by omega)] at e
    exact e
  refine ⟨⟨fun i d hd => ?_, fun i j d d' a hd hd' hl hl' ha ha' => ?_, fun i hi => ?_, fun q m => ⟨?_, fun i d hd hl e => ?_⟩, fun q m vs e => r.hidT q m vs ((ex.hid q m).2.symm.trans e)⟩, ex⟩
  · by_cases hi : i = h.length
    · subst hi
      rw [List.getElem?_append_right (Nat.le_refl _)] at hd
      have e : c = d := by simpa using hd
      subst e
      exact ⟨p, Rho.push_same, hc ex⟩
    · have hd := old hd hi
      obtain ⟨a, ha, q⟩ := r.cells i d hd
      refine ⟨a, by rw [Rho.push_ne hi]; exact ha, ?_⟩
      by_cases hl : d.live = true
      · obtain ⟨o', ho'⟩ := r.live (p := a) (.inl ⟨i, d, hd, hl, ha⟩)
        exact CellR.mono ex ((hH a o' ho').trans ho'.symm) q
      · exact CellR.dead hl
  · by_cases hi : i = h.length
    · by_cases hj : j = h.length
      · rw [hi, hj]
      · subst hi
        rw [Rho.push_same] at ha
        cases ha
        rw [Rho.push_ne hj] at ha'
        obtain ⟨o, e⟩ := r.live (p := p) (.inl ⟨j, d', old hd' hj, hl', ha'⟩)
        rw [hp] at e; cases e
    · by_cases hj : j = h.length
      · subst hj
        rw [Rho.push_same] at ha'
        cases ha'
        rw [Rho.push_ne hi] at ha
        obtain ⟨o, e⟩ := r.live (p := p) (.inl ⟨i, d, old hd hi, hl, ha⟩)
        rw [hp] at e; cases e
      · rw [Rho.push_ne hi] at ha
        rw [Rho.push_ne hj] at ha'
        exact r.inj i j d d' a (old hd hi) (old hd' hj) hl hl' ha ha'
  · rw [List.length_append, List.length_singleton] at hi
    rw [Rho.push_ne (by omega)]
    exact r.out i (by omega)
  · obtain ⟨o', ho'⟩ := (r.hidS q m).1
    exact ⟨o', hH q o' ho'⟩
  · by_cases hi : i = h.length
    · subst hi
      rw [Rho.push_same] at e
      cases e
      obtain ⟨o', ho'⟩ := (r.hidS p m).1
      rw [hp] at ho'; cases ho'
    · rw [Rho.push_ne hi] at e
      exact (r.hidS q m).2 i d (old hd hi) hl e

/-- a live cell is written -/
theorem HRel.write (r : HRel K cl ρ h H) {i : Nat} {c c' : Cell} {a : Addr} {o : HO} (hi : h[i]? = some c) (hl : c.live = true) (ha : ρ.map i = some a)
    (hc : Ext ρ h H ρ (h.set i c') (upd H a o) → CellR K cl ρ (h.set i c') (upd H a o) a c') :
    HRel K cl ρ (h.set i c') (upd H a o) ∧ Ext ρ h H ρ (h.set i c') (upd H a o) := by
  have lt : i < h.length := (List.getElem?_eq_some_iff.mp hi).1
  have old : ∀ {j : Nat} {d : Cell}, (h.set i c')[j]? = some d → d.live = true → ∃ d₀, h[j]? = some d₀ ∧ d₀.live = true := fun {j d} e hd => by
    by_cases hj : i = j
    · subst hj; exact ⟨c, hi, hl⟩
    · rw [List.getElem?_set_ne hj] at e
      exact ⟨d, e, hd⟩
  have sub : ∀ q, Live ρ (h.set i c') q → Live ρ h q := fun q l => by
    rcases l with ⟨j, d, hd, hdl, hq⟩ | m
    · obtain ⟨d₀, h1, h2⟩ := old hd hdl
      exact .inl ⟨j, d₀, h1, h2, hq⟩
    · exact .inr m
  have ah : ∀ q ∈ ρ.hid, q ≠ a := fun q m z => (r.hidS q m).2 i c hi hl (z ▸ ha)
  have ex : Ext ρ h H ρ (h.set i c') (upd H a o) := by
    refine ⟨.of (fun _ _ e => e) (fun q u e n => ⟨?_, fun l => n (sub q l)⟩), fun q m => ⟨m, upd_ne (ah q m)⟩, by simp⟩
    rw [upd_ne]
    · exact e
    · intro z
      subst z
      exact n (.inl ⟨i, c, hi, hl, ha⟩)
  refine ⟨⟨fun j d hd => ?_, fun j k d d' b hd hd' hdl hdl' hb hb' => ?_, fun j hj => r.out j (by rw [List.length_set] at hj; exact hj), fun q m => ⟨?_, fun j d hd hdl => ?_⟩, fun q m vs e => r.hidT q m vs ((ex.hid q m).2.symm.trans e)⟩, ex⟩
  · by_cases hj : i = j
    · subst hj
      rw [List.getElem?_set_self lt] at hd
      have e : c' = d := by simpa using hd
      subst e
      exact ⟨a, ha, hc ex⟩
    · rw [List.getElem?_set_ne hj] at hd
      obtain ⟨b, hb, q⟩ := r.cells j d hd
      refine ⟨b, hb, ?_⟩
      by_cases hdl : d.live = true
      · refine CellR.mono ex (upd_ne fun z => ?_) q
        subst z
        exact hj (r.inj i j c d b hi hd hl hdl ha hb)
      · exact CellR.dead hdl
  · obtain ⟨d₀, h1, h2⟩ := old hd hdl
    obtain ⟨d₁, h3, h4⟩ := old hd' hdl'
    exact r.inj j k d₀ d₁ b h1 h3 h2 h4 hb hb'
  · obtain ⟨o', ho'⟩ := (r.hidS q m).1
    exact ⟨o', by rw [upd_ne (ah q m)]; exact ho'⟩
  · obtain ⟨d₀, h1, h2⟩ := old hd hdl
    exact (r.hidS q m).2 j d₀ h1 h2

/-- a cell is forgotten: what stands there is no cell any more -/
theorem HRel.forget (r : HRel K cl ρ h H) (i : Nat) : HRel K cl ρ (h.set i .dead) H ∧ Ext ρ h H ρ (h.set i .dead) H := by
  have sub : ∀ {j : Nat} {d : Cell}, (h.set i .dead)[j]? = some d → d.live = true → h[j]? = some d := fun {j d} e hd => by
    by_cases hj : i = j
    · subst hj
      by_cases hlt : i < h.length
      · rw [List.getElem?_set_self hlt] at e
        have z : Cell.dead = d := by simpa using e
        subst z
        cases hd
      · rw [List.getElem?_eq_none (by simpa using hlt)] at e; cases e
    · rw [List.getElem?_set_ne hj] at e
      exact e
  have ex : Ext ρ h H ρ (h.set i .dead) H := ⟨.of (fun _ _ e => e) fun q u e n => ⟨e, fun l => n (l.elim (fun ⟨j, d, hd, hdl, hq⟩ => .inl ⟨j, d, sub hd hdl, hdl, hq⟩) .inr)⟩, fun q m => ⟨m, rfl⟩, by simp⟩
  refine ⟨⟨fun j d hd => ?_, fun j k d d' b hd hd' hdl hdl' hb hb' => r.inj j k d d' b (sub hd hdl) (sub hd' hdl') hdl hdl' hb hb', fun j hj => r.out j (by rw [List.length_set] at hj; exact hj), fun q m => ⟨(r.hidS q m).1, fun j d hd hdl => (r.hidS q m).2 j d (sub hd hdl) hdl⟩, r.hidT⟩, ex⟩
  by_cases hdl : d.live = true
  · obtain ⟨b, hb, q⟩ := r.cells j d (sub hd hdl)
    exact ⟨b, hb, CellR.mono ex rfl q⟩
  · have hlt : j < h.length := by
      have := (List.getElem?_eq_some_iff.mp hd).1
      rw [List.length_set] at this
      exact this
    obtain ⟨b, hb, _⟩ := r.cells j h[j] (by simp [hlt])
    exact ⟨b, hb, CellR.dead hdl⟩
theorem forget_not_live (r : HRel K cl ρ h H) {i : Nat} {c : Cell} {a : Addr} (hi : h[i]? = some c) (hl : c.live = true) (ha : ρ.map i = some a) : ¬ Live ρ (h.set i .dead) a := fun l => by
  rcases l with ⟨j, d, hd, hdl, hq⟩ | m
  · by_cases hj : i = j
    · subst hj
      rw [List.getElem?_set_self (List.getElem?_eq_some_iff.mp hi).1] at hd
      have z : Cell.dead = d := by simpa using hd
      subst z
      cases hdl
    · rw [List.getElem?_set_ne hj] at hd
      exact hj (r.inj i j c d a hi hd hl hdl ha hq)
  · exact (r.hidS a m).2 i c hi hl ha

/-- what is no cell is locked, or unlocked -/
theorem HRel.relock (r : HRel K cl ρ h H) {p : Addr} {o o' : HO} (hp : H p = some o) (n : ¬ Live ρ h p) (st : strip o' = strip o) : HRel K cl ρ h (upd H p o') ∧ Ext0 ρ h H ρ h (upd H p o') := by
  have ex : Ext0 ρ h H ρ h (upd H p o') := by
    refine ⟨fun _ _ e => e, fun q u e nq => ⟨?_, nq⟩⟩
    by_cases z : q = p
    · subst z
      rw [hp] at e
      cases e
      exact ⟨o', upd_same, st⟩
    · exact ⟨u, (upd_ne z).trans e, rfl⟩
  refine ⟨⟨fun i c hc => ?_, r.inj, r.out, fun q m => ⟨?_, (r.hidS q m).2⟩, fun q m vs e => ?_⟩, ex⟩
  · obtain ⟨a, ha, q⟩ := r.cells i c hc
    refine ⟨a, ha, ?_⟩
    by_cases hl : c.live = true
    · exact CellR.mono0 ex (upd_ne fun z => n (z ▸ .inl ⟨i, c, hc, hl, ha⟩)) q
    · exact CellR.dead hl
  · obtain ⟨o2, ho2⟩ := (r.hidS q m).1
    exact ⟨o2, (upd_ne (show q ≠ p from fun z => n (by subst z; exact .inr m))).trans ho2⟩
  · rw [upd_ne (show q ≠ p from fun z => n (by subst z; exact .inr m))] at e
    exact r.hidT q m vs e
theorem HRel.lock (r : HRel K cl ρ h H) {p : Addr} {o o' : HO} (hp : H p = some o) (n : ¬ Live ρ h p) (st : strip o' = strip o) (nf : ∀ ob u, o ≠ .frz ob u) : HRel K cl ρ h (upd H p o') ∧ Ext ρ h H ρ h (upd H p o') := by
  obtain ⟨h1, h2⟩ := r.relock hp n st
  refine ⟨h1, ⟨⟨h2, fun q ob u e _ => ?_⟩, fun q m => ⟨m, upd_ne fun z => n (z ▸ .inr m)⟩, Nat.le_refl _⟩⟩
  by_cases z : q = p
  · subst z
    rw [hp] at e
    exact absurd (Option.some.inj e) (nf ob u)
  · exact (upd_ne z).trans e
/-- behind the lock: as if it had not been -/
theorem Ext.unlock {p : Addr} {o o' : HO} (hp : H p = some o) (n : ¬ Live ρ h p) (nf : ∀ ob u, o ≠ .frz ob u) (e : Ext ρ h (upd H p o') ρ' h' H') : Ext ρ h H ρ' h' (upd H' p o) := by
  refine ⟨⟨⟨e.rho, fun q u eq nq => ?_⟩, fun q ob u eq nq => ?_⟩, fun q m => ?_, e.len⟩
  · by_cases z : q = p
    · subst z
      rw [hp] at eq
      cases eq
      exact ⟨⟨_, upd_same, rfl⟩, (e.keepS q o' upd_same nq).2⟩
    · obtain ⟨⟨o2, e1, s1⟩, n1⟩ := e.keepS q u ((upd_ne z).trans eq) nq
      exact ⟨⟨o2, (upd_ne z).trans e1, s1⟩, n1⟩
  · by_cases z : q = p
    · subst z
      rw [hp] at eq
      exact absurd (Option.some.inj eq) (nf ob u)
    · exact (upd_ne z).trans (e.frz q ob u ((upd_ne z).trans eq) nq)
  · have z : q ≠ p := fun z => n (z ▸ .inr m)
    obtain ⟨m1, e1⟩ := e.hid q m
    exact ⟨m1, (upd_ne z).trans (e1.trans (upd_ne z))⟩

/-! ### reading -/
/-- the items of a list, by value or in its cell -/
def rdL (h : MH) : Dv → Option (List Dv)
  | .lst xs => some xs
  | .obj i => match h[i]? with
    | some (.lst xs) => some xs
    | _ => none
  | _ => none
def rdT : Dv → Option (List Dv)
  | .tup xs => some xs
  | _ => none
theorem sqL_of {a : Addr} {vs : List V} (q : (Rd H a (.lst vs) ∧ ¬ Live ρ h a) ∨ KL K a vs) : SqL K H a vs := q.elim (fun q => .inl q.1) fun q => .inr q
theorem sqT_of {a : Addr} {vs : List V} (q : (H a = some (.tup vs) ∧ ¬ Live ρ h a) ∨ (KT K a vs ∧ vs = [])) : SqT K H a vs := q.elim (fun q => .inl (.inl q.1)) fun q => .inr q.1
theorem rdL_rel (r : HRel K cl ρ h H) {d : Dv} {v : V} {xs : List Dv} (rd : RelD K cl ρ h H d v) (e : rdL h d = some xs) : ∃ a vs, v = .ref a ∧ H a = some (.lst vs) ∧ RelDs K cl ρ h H xs vs := by
  cases rd with
  | lst q n rs =>
    have e' : _ = _ := Option.some.inj e
    subst e'
    exact ⟨_, _, rfl, q, rs⟩
  | @obj i a q =>
    unfold rdL at e
    cases hi : h[i]? with
    | none => simp only [hi] at e; cases e
    | some c =>
      simp only [hi] at e
      cases c with
      | lst ys =>
        cases e
        obtain ⟨b, hb, vs, e1, rs⟩ := r.cells i _ hi
        rw [q] at hb; cases hb
        exact ⟨a, vs, rfl, e1, rs⟩
      | _ => cases e
  | non => cases e
  | bl _ => cases e
  | int _ => cases e
  | str _ => cases e
  | kls _ _ => cases e
  | tup _ _ => cases e
  | dctK _ _ _ _ => cases e
  | dctT _ _ _ _ => cases e
  | exc0 _ _ _ => cases e
  | exc1 _ _ _ _ _ _ => cases e
  | odd _ _ _ _ _ _ => cases e
theorem rdT_rel {d : Dv} {v : V} {xs : List Dv} (rd : RelD K cl ρ h H d v) (e : rdT d = some xs) : ∃ a vs, v = .ref a ∧ SqT K H a vs ∧ RelDs K cl ρ h H xs vs := by
  cases rd with
  | tup q rs =>
    have e' : _ = _ := Option.some.inj e
    subst e'
    exact ⟨_, _, rfl, sqT_of q, rs⟩
  | _ => cases e
theorem RelD.intOf {i : Int} {v : V} (r : RelD K cl ρ h H (.int i) v) : v = .int i := by cases r; rfl
theorem RelD.blOf {i : Bool} {v : V} (r : RelD K cl ρ h H (.bl i) v) : v = .bl i := by cases r; rfl
theorem RelD.strOf {i : Str} {v : V} (r : RelD K cl ρ h H (.str i) v) : v = .str i := by cases r; rfl
theorem RelD.nonOf {v : V} (r : RelD K cl ρ h H .non v) : v = .non := by cases r; rfl
/-- ints out of a list -/
def intsOf : List Dv → Option (List Int)
  | [] => some []
  | .int i :: ds => (intsOf ds).map (i :: ·)
  | _ :: _ => none
theorem intsOf_rel : ∀ {ds : List Dv} {vs : List V} {ns : List Int}, RelDs K cl ρ h H ds vs → intsOf ds = some ns → vs = ns.map V.int ∧ ds = ns.map Dv.int
  | [], _, _, .nil, e => by cases e; exact ⟨rfl, rfl⟩
  | .int i :: ds, _, ns, .cons r rs, e => by
    unfold intsOf at e
    cases e1 : intsOf ds with
    | none => rw [e1] at e; cases e
    | some ms =>
      rw [e1] at e
      cases e
      obtain ⟨h1, h2⟩ := intsOf_rel rs e1
      rw [r.intOf, h1, h2]
      exact ⟨rfl, rfl⟩
  | .non :: _, _, _, .cons _ _, e => by cases e
  | .bl _ :: _, _, _, .cons _ _, e => by cases e
  | .str _ :: _, _, _, .cons _ _, e => by cases e
  | .lst _ :: _, _, _, .cons _ _, e => by cases e
  | .kls _ :: _, _, _, .cons _ _, e => by cases e
  | .tup _ :: _, _, _, .cons _ _, e => by cases e
  | .dct _ :: _, _, _, .cons _ _, e => by cases e
  | .obj _ :: _, _, _, .cons _ _, e => by cases e
  | .exc _ _ :: _, _, _, .cons _ _, e => by cases e
@[simp] theorem intsOf_map (ns : List Int) : intsOf (ns.map Dv.int) = some ns := by
  induction ns with
  | nil => rfl
  | cons n ns ih => show (intsOf (ns.map Dv.int)).map (n :: ·) = _; rw [ih]; rfl
def blsOf : List Dv → Option (List Bool)
  | [] => some []
  | .bl i :: ds => (blsOf ds).map (i :: ·)
  | _ :: _ => none
theorem blsOf_rel : ∀ {ds : List Dv} {vs : List V} {ns : List Bool}, RelDs K cl ρ h H ds vs → blsOf ds = some ns → vs = ns.map V.bl ∧ ds = ns.map Dv.bl
  | [], _, _, .nil, e => by cases e; exact ⟨rfl, rfl⟩
  | .bl i :: ds, _, ns, .cons r rs, e => by
    unfold blsOf at e
    cases e1 : blsOf ds with
    | none => rw [e1] at e; cases e
    | some ms =>
      rw [e1] at e
      cases e
      obtain ⟨h1, h2⟩ := blsOf_rel rs e1
      rw [r.blOf, h1, h2]
      exact ⟨rfl, rfl⟩
  | .non :: _, _, _, .cons _ _, e => by cases e
  | .int _ :: _, _, _, .cons _ _, e => by cases e
  | .str _ :: _, _, _, .cons _ _, e => by cases e
  | .lst _ :: _, _, _, .cons _ _, e => by cases e
  | .kls _ :: _, _, _, .cons _ _, e => by cases e
  | .tup _ :: _, _, _, .cons _ _, e => by cases e
  | .dct _ :: _, _, _, .cons _ _, e => by cases e
  | .obj _ :: _, _, _, .cons _ _, e => by cases e
  | .exc _ _ :: _, _, _, .cons _ _, e => by cases e
@[simp] theorem blsOf_map (ns : List Bool) : blsOf (ns.map Dv.bl) = some ns := by
  induction ns with
  | nil => rfl
  | cons n ns ih => show (blsOf (ns.map Dv.bl)).map (n :: ·) = _; rw [ih]; rfl
end
end L2.Mi

/-! MiOps: expressions of the mirror. -/
namespace L2.Mi
open PySem PySem.Spec PyProof.Rows

/-! ### names, constants -/
def eVar (i : Nat) : ME := fun τ h => match τ[i]? with
  | some (some d) => .ok d h
  | _ => .stuck
def eC (d : Dv) : ME := fun _ h => .ok d h
section
variable {X : Cx} {cl : Str → Option Addr} {W : WX} {pos : Pos}
theorem je_var {i : Nat} {x : Str} (hN : X.N[i]? = some x) (hv : Vis X.env.scope x) (hd : (x == ("__debug__" : Str)) = false := by decide) (hcd : (x == ("__classdict__" : Str)) = false := by decide) : JE cl W X (.Name x pos) (eVar i) := by
  refine pe_imp (pe_var hN hv hd hcd) fun σ H Q q => ?_
  obtain ⟨τ, ρ, h, hr, er, p⟩ := q
  unfold eVar at p
  cases e : τ[i]? with
  | none => simp only [e] at p; exact p.elim
  | some o =>
    cases o with
    | none => simp only [e] at p; exact p.elim
    | some d =>
      simp only [e] at p
      obtain ⟨v, e1, r1⟩ := er.2 i d e
      exact ⟨v, e1, p ρ H v hr (.refl _ _ _) r1⟩
/-- a constant whose value needs no object -/
def scalV : Dv → Option V
  | .non => some .non
  | .bl b => some (.bl b)
  | .int i => some (.int i)
  | .str x => some (.str x)
  | _ => none
theorem je_scal {e : Expr} {v : V} {d : Dv} (h : PE X e (tC v)) (hd : scalV d = some v) : JE cl W X e (eC d) := by
  refine pe_imp h fun σ H Q q => ?_
  obtain ⟨τ, ρ, h, hr, er, p⟩ := q
  refine p ρ H v hr (.refl _ _ _) ?_
  cases d with
  | non => cases hd; exact .non
  | bl b => cases hd; exact .bl b
  | int i => cases hd; exact .int i
  | str x => cases hd; exact .str x
  | _ => cases hd
theorem je_int {i j} : JE cl W X (.Constant (.int i) j pos) (eC (.int i)) := je_scal pe_int rfl
theorem je_bl {b j} : JE cl W X (.Constant (.bool b) j pos) (eC (.bl b)) := je_scal pe_bl rfl
theorem je_non {j} : JE cl W X (.Constant .none j pos) (eC .non) := je_scal pe_non rfl
theorem je_str {x j} : JE cl W X (.Constant (.str x) j pos) (eC (.str x)) := je_scal pe_str rfl
/-- a module's constant that is an int or a text -/
theorem je_glob {x : Str} {d : Dv} {v : V} {u : Value} (hg : Gl X x) (hm : X.mg x = some u) (hd : scalV d = some v) (r : RelV v u) (hdb : (x == ("__debug__" : Str)) = false := by decide) : JE cl W X (.Name x pos) (eC d) := je_scal (pe_glob hg hm r hdb) hd
end

/-! ### two operands -/
def eOp2 (f : Dv → Dv → MH → Res Dv) (ma mb : ME) : ME := fun τ h => (ma τ h).bind fun x h1 => (mb τ h1).bind fun y h2 => f x y h2
def eOp1 (f : Dv → MH → Res Dv) (ma : ME) : ME := fun τ h => (ma τ h).bind fun x h1 => f x h1
/-- what an operation on values must bear -/
def Sd2 (X : Cx) (cl : Str → Option Addr) (f : Dv → Dv → MH → Res Dv) (r : R2) : Prop :=
  ∀ (σ : St) (ρ : Rho) (h : MH) (H : Hp) (a b : Dv) (x y : V) (Q : VK), HRel X.K cl ρ h H → RelD X.K cl ρ h H a x → RelD X.K cl ρ h H b y → Post X.K cl (RD X.K cl) (fun _ _ _ _ => False) σ ρ h H (f a b h) Q → r x y H Q
/-- the function raises nothing -/
def NoErr {α : Type} (r : Res α) : Prop := match r with
  | .err _ _ _ => False
  | _ => True
theorem Post.wish {α β : Type} {K : PySem.W.Frag} {cl : Str → Option Addr} {Rl : Rho → MH → Hp → α → β → Prop} {W W' : WX} {σ σ' : St} {ρ : Rho} {h : MH} {H : Hp} {r : Res α} {Q : β → Hp → Prop}
    (p : Post K cl Rl W σ ρ h H r Q) (n : NoErr r) : Post K cl Rl W' σ' ρ h H r Q := by
  cases r with
  | ok a h' => exact p
  | err c xs h' => exact n.elim
  | stuck => exact p
structure Op2 (X : Cx) (cl : Str → Option Addr) (g : Value → Value → Sem Value) (f : Dv → Dv → MH → Res Dv) : Prop where
  ex : ∃ r : R2, OpR X g r ∧ Sd2 X cl f r
  ne : ∀ a b h, NoErr (f a b h)
section
variable {X : Cx} {cl : Str → Option Addr} {W : WX} {pos : Pos} {a b c : Expr} {ma mb mc : ME} {f f' : Dv → Dv → MH → Res Dv}
/-- two expressions in a row -/
theorem two_of {r : V → V → Hp → VK → Prop} (hf : Sd2 X cl f r) (ne : ∀ a b h, NoErr (f a b h)) {σ : St} {H : Hp} {Q : VK}
    (q : tM X.K cl (RD X.K cl) W (eOp2 f ma mb) σ H Q) : tM X.K cl (RD X.K cl) W ma σ H fun x H1 => tM X.K cl (RD X.K cl) W mb σ H1 fun y H2 => r x y H2 Q := by
  refine tM_bind (f := fun τ x h1 => (mb τ h1).bind fun y h2 => f x y h2) q fun τ ρ1 h1 H1 x v hr1 er1 r1 p1 => ?_
  refine ⟨τ, ρ1, h1, hr1, er1, Post.bind p1 fun y h2 ρ2 H2 u hr2 e2 r2 p2 => ?_⟩
  exact hf σ ρ2 h2 H2 x y v u Q hr2 (r1.mono e2) r2 (p2.wish (ne x y h2))
theorem je_op {op : Operator} (o : Op2 X cl (binaryOp op) f) (ha : JE cl W X a ma) (hb : JE cl W X b mb) : JE cl W X (.BinOp a op b pos) (eOp2 f ma mb) := by
  obtain ⟨r, h1, h2⟩ := o.ex
  exact pe_imp (pe_op h1 ha hb) fun σ H Q q => two_of h2 o.ne q
theorem je_cmp {op : CmpOp} (o : Op2 X cl (compareOp op) f) (ha : JE cl W X a ma) (hb : JE cl W X b mb) (hm : behindInMarks op b = false) : JE cl W X (.Compare a [op] [b] pos) (eOp2 f ma mb) := by
  obtain ⟨r, h1, h2⟩ := o.ex
  exact pe_imp (pe_cmpR h1 ha hb hm) fun σ H Q q => two_of h2 o.ne q
/-- a value that is a truth value, as a test -/
def asB : Dv → MH → Res Bool
  | .bl b, h => .ok b h
  | _, _ => .stuck
def mTest (m : ME) : MT := fun τ h => (m τ h).bind asB
theorem test_of {m : ME} {σ : St} {H : Hp} {Q : Bool → Hp → Prop} (q : tM X.K cl RB W (mTest m) σ H Q) : tM X.K cl (RD X.K cl) W m σ H fun x H' => ∃ k, x = .bl k ∧ Q k H' := by
  refine tM_bind (f := fun _ => asB) q fun τ ρ1 h1 H1 x v hr1 er1 r1 p1 => ?_
  cases r1 with
  | bl b => exact ⟨b, rfl, p1 ρ1 H1 b hr1 (.refl _ _ _) rfl⟩
  | _ => exact p1.elim
theorem jt_val {e : Expr} {m : ME} (h : JE cl W X e m) (he : ∀ whole, isTrue e X.env whole = (do let v ← whole; standAt e.pos; holding [v] (truthy v)) := by intro _; rfl) : JT cl W X e (mTest m) :=
  pt_imp (pt_val h he) fun σ H Q q => test_of q
theorem jt_cmp {op : CmpOp} (o : Op2 X cl (compareOp op) f) (ha : JE cl W X a ma) (hb : JE cl W X b mb) (hm : behindInMarks op b = false) : JT cl W X (.Compare a [op] [b] pos) (mTest (eOp2 f ma mb)) := by
  obtain ⟨r, h1, h2⟩ := o.ex
  refine pt_imp (pt_cmpR h1 ha hb hm) fun σ H Q q => ?_
  exact two_of h2 o.ne (test_of q)
/-- a op b op' c -/
def eChain (f f' : Dv → Dv → MH → Res Dv) (ma mb mc : ME) : ME := fun τ h => (ma τ h).bind fun x h1 => (mb τ h1).bind fun y h2 => (f x y h2).bind fun z h3 => match z with
  | .bl true => (mc τ h3).bind fun w h4 => f' y w h4
  | .bl false => .ok (.bl false) h3
  | _ => .stuck
theorem chain_of {r r' : R2} (hf : Sd2 X cl f r) (ne : ∀ a b h, NoErr (f a b h)) (hf' : Sd2 X cl f' r') (ne' : ∀ a b h, NoErr (f' a b h)) {σ : St} {H : Hp} {Q : VK}
    (q : tM X.K cl (RD X.K cl) W (eChain f f' ma mb mc) σ H Q) : tChain r r' (tM X.K cl (RD X.K cl) W ma) (tM X.K cl (RD X.K cl) W mb) (tM X.K cl (RD X.K cl) W mc) σ H Q := by
  refine tM_bind (f := fun τ x h1 => (mb τ h1).bind fun y h2 => (f x y h2).bind fun z h3 => match z with
    | .bl true => (mc τ h3).bind fun w h4 => f' y w h4
    | .bl false => .ok (.bl false) h3
    | _ => .stuck) q fun τ ρ1 h1 H1 x v hr1 er1 r1 p1 => ?_
  refine ⟨τ, ρ1, h1, hr1, er1, Post.bind p1 fun y h2 ρ2 H2 u hr2 e2 r2 p2 => ?_⟩
  have n := ne x y h2
  refine hf σ ρ2 h2 H2 x y v u _ hr2 (r1.mono e2) r2 (Post.wish (W := W) (σ := σ) (Post.bind p2 fun z h3 ρ3 H3 zv hr3 e3 r3 p3 => ?_) n)
  cases r3 with
  | bl k =>
    refine ⟨k, rfl, ?_⟩
    cases k with
    | true => exact ⟨τ, ρ3, h3, hr3, (er1.mono e2).mono e3, Post.bind p3 fun w h4 ρ4 H4 wv hr4 e4 r4 p4 => hf' σ ρ4 h4 H4 y w u wv Q hr4 ((r2.mono e3).mono e4) r4 (p4.wish (ne' y w h4))⟩
    | false => exact p3 ρ3 H3 (.bl false) hr3 (.refl _ _ _) (.bl false)
  | _ => exact p3.elim
theorem je_chain {op op' : CmpOp} (o : Op2 X cl (compareOp op) f) (o' : Op2 X cl (compareOp op') f') (ha : JE cl W X a ma) (hb : JE cl W X b mb) (hc : JE cl W X c mc) (hm : lastMarks [op, op'] [b, c] = false := by with_unfolding_all rfl) :
    JE cl W X (.Compare a [op, op'] [b, c] pos) (eChain f f' ma mb mc) := by
  obtain ⟨r, h1, h2⟩ := o.ex
  obtain ⟨r', h1', h2'⟩ := o'.ex
  exact pe_imp (pe_chain h1 h1' ha hb hc hm) fun σ H Q q => chain_of h2 o.ne h2' o'.ne q
theorem jt_chain {op op' : CmpOp} (o : Op2 X cl (compareOp op) f) (o' : Op2 X cl (compareOp op') f') (ha : JE cl W X a ma) (hb : JE cl W X b mb) (hc : JE cl W X c mc) (hm : lastMarks [op, op'] [b, c] = false := by with_unfolding_all rfl) :
    JT cl W X (.Compare a [op, op'] [b, c] pos) (mTest (eChain f f' ma mb mc)) := by
  obtain ⟨r, h1, h2⟩ := o.ex
  obtain ⟨r', h1', h2'⟩ := o'.ex
  exact pt_imp (pt_chain h1 h1' ha hb hc hm) fun σ H Q q => chain_of h2 o.ne h2' o'.ne (test_of q)

/-! ### and, or, not, if else -/
def mAnd (a b : MT) : MT := fun τ h => (a τ h).bind fun c h1 => if c = true then b τ h1 else .ok false h1
def mOr (a b : MT) : MT := fun τ h => (a τ h).bind fun c h1 => if c = true then .ok true h1 else b τ h1
def mNot (a : MT) : MT := fun τ h => (a τ h).bind fun c h1 => .ok (!c) h1
def eAnd (a b : ME) : ME := fun τ h => (a τ h).bind fun c h1 => match c with
  | .bl true => b τ h1
  | .bl false => .ok (.bl false) h1
  | _ => .stuck
def eOr (a b : ME) : ME := fun τ h => (a τ h).bind fun c h1 => match c with
  | .bl true => .ok (.bl true) h1
  | .bl false => b τ h1
  | _ => .stuck
def eNot (a : ME) : ME := fun τ h => (a τ h).bind fun c h1 => match c with
  | .bl k => .ok (.bl (!k)) h1
  | _ => .stuck
def eIf (c : MT) (a b : ME) : ME := fun τ h => (c τ h).bind fun k h1 => if k = true then a τ h1 else b τ h1
variable {rest : List Expr} {ta tb tc : MT}
abbrev JW (cl : Str → Option Addr) (W : WX) (X : Cx) (e : Expr) (m : MT) : Prop := PW X e (tM X.K cl RB W m)
theorem jw_and1 (ha : JT cl W X a ta) : JW cl W X (.BoolOp .And [a] pos) ta := pw_and1 ha
theorem jw_or1 (ha : JT cl W X a ta) : JW cl W X (.BoolOp .Or [a] pos) ta := pw_or1 ha
theorem jw_and (ha : JT cl W X a ta) (hb : JW cl W X (.BoolOp .And (b :: rest) pos) tb) : JW cl W X (.BoolOp .And (a :: b :: rest) pos) (mAnd ta tb) := by
  refine pw_imp (pw_and ha hb) fun σ H Q q => ?_
  refine tM_bind (R1 := RB) (f := fun τ c h1 => if c = true then tb τ h1 else .ok false h1) q fun τ ρ1 h1 H1 x v hr1 er1 r1 p1 => ?_
  cases r1
  cases x with
  | true => exact iteT ⟨τ, ρ1, h1, hr1, er1, p1⟩
  | false => exact iteF (p1 ρ1 H1 false hr1 (.refl _ _ _) rfl)
theorem jw_or (ha : JT cl W X a ta) (hb : JW cl W X (.BoolOp .Or (b :: rest) pos) tb) : JW cl W X (.BoolOp .Or (a :: b :: rest) pos) (mOr ta tb) := by
  refine pw_imp (pw_or ha hb) fun σ H Q q => ?_
  refine tM_bind (R1 := RB) (f := fun τ c h1 => if c = true then .ok true h1 else tb τ h1) q fun τ ρ1 h1 H1 x v hr1 er1 r1 p1 => ?_
  cases r1
  cases x with
  | false => exact iteF ⟨τ, ρ1, h1, hr1, er1, p1⟩
  | true => exact iteT (p1 ρ1 H1 true hr1 (.refl _ _ _) rfl)
theorem jt_not (ha : JT cl W X a ta) : JT cl W X (.UnaryOp .Not a pos) (mNot ta) := by
  refine pt_imp (pt_not ha) fun σ H Q q => ?_
  refine tM_bind (R1 := RB) (f := fun _ c h1 => .ok (!c) h1) q fun τ ρ1 h1 H1 x v hr1 er1 r1 p1 => ?_
  cases r1
  exact p1 ρ1 H1 _ hr1 (.refl _ _ _) rfl
theorem je_and (ha : JE cl W X a ma) (hb : JE cl W X (.BoolOp .And (b :: rest) pos) mb) : JE cl W X (.BoolOp .And (a :: b :: rest) pos) (eAnd ma mb) := by
  refine pe_imp (pe_and ha hb) fun σ H Q q => ?_
  refine tM_bind (R1 := RD X.K cl) (f := fun τ c h1 => match c with
    | .bl true => mb τ h1
    | .bl false => .ok (.bl false) h1
    | _ => .stuck) q fun τ ρ1 h1 H1 x v hr1 er1 r1 p1 => ?_
  cases r1 with
  | bl k =>
    refine ⟨k, rfl, ?_⟩
    cases k with
    | true => exact iteT ⟨τ, ρ1, h1, hr1, er1, p1⟩
    | false => exact iteF (p1 ρ1 H1 _ hr1 (.refl _ _ _) (.bl false))
  | _ => exact p1.elim
theorem je_or (ha : JE cl W X a ma) (hb : JE cl W X (.BoolOp .Or (b :: rest) pos) mb) : JE cl W X (.BoolOp .Or (a :: b :: rest) pos) (eOr ma mb) := by
  refine pe_imp (pe_or ha hb) fun σ H Q q => ?_
  refine tM_bind (R1 := RD X.K cl) (f := fun τ c h1 => match c with
    | .bl true => .ok (.bl true) h1
    | .bl false => mb τ h1
    | _ => .stuck) q fun τ ρ1 h1 H1 x v hr1 er1 r1 p1 => ?_
  cases r1 with
  | bl k =>
    refine ⟨k, rfl, ?_⟩
    cases k with
    | false => exact iteF ⟨τ, ρ1, h1, hr1, er1, p1⟩
    | true => exact iteT (p1 ρ1 H1 _ hr1 (.refl _ _ _) (.bl true))
  | _ => exact p1.elim
theorem je_one {op : BoolOp} (h : JE cl W X a ma) : JE cl W X (.BoolOp op [a] pos) ma := pe_one h
theorem je_not (ha : JE cl W X a ma) : JE cl W X (.UnaryOp .Not a pos) (eNot ma) := by
  refine pe_imp (pe_not ha) fun σ H Q q => ?_
  refine tM_bind (R1 := RD X.K cl) (f := fun (_ : MEnv) (c : Dv) h1 => match c with
    | .bl k => .ok (Dv.bl (!k)) h1
    | _ => .stuck) q fun τ ρ1 h1 H1 x v hr1 er1 r1 p1 => ?_
  cases r1 with
  | bl k => exact ⟨k, rfl, p1 ρ1 H1 _ hr1 (.refl _ _ _) (.bl _)⟩
  | _ => exact p1.elim
theorem je_if (hc : JT cl W X c tc) (ha : JE cl W X a ma) (hb : JE cl W X b mb) : JE cl W X (.IfExp c a b pos) (eIf tc ma mb) := by
  refine pe_imp (pe_ifExp hc ha hb) fun σ H Q q => ?_
  refine tM_bind (R1 := RB) (f := fun τ k h1 => if k = true then ma τ h1 else mb τ h1) q fun τ ρ1 h1 H1 x v hr1 er1 r1 p1 => ?_
  cases r1
  cases x with
  | true => exact iteT ⟨τ, ρ1, h1, hr1, er1, p1⟩
  | false => exact iteF ⟨τ, ρ1, h1, hr1, er1, p1⟩
end
end L2.Mi

/-! MiOps2: the operations on values. -/
namespace L2.Mi
open PySem PySem.Spec PyProof.Rows
section
variable {X : Cx} {cl : Str → Option Addr}
abbrev NoW : WX := fun _ _ _ _ => False
/-- ints in, a value out -/
def oII (C : Int → Int → Bool) (g : Int → Int → Dv) : Dv → Dv → MH → Res Dv
  | .int i, .int j, h => if C i j = true then .ok (g i j) h else .stuck
  | _, _, _ => .stuck
theorem oII_ne {C : Int → Int → Bool} {g : Int → Int → Dv} : ∀ a b h, NoErr (oII C g a b h) := by
  intro a b h
  unfold oII
  split
  · split <;> trivial
  · trivial
theorem op_of_II {gg : Value → Value → Sem Value} {C : Int → Int → Bool} {P : Int → Int → Prop} {g : Int → Int → Dv} {gv : Int → Int → V} (o : OpR X gg (rI P gv)) (hC : ∀ i j, C i j = true → P i j)
    (hg : ∀ K ρ h H i j, RelD K cl ρ h H (g i j) (gv i j)) : Op2 X cl gg (oII C g) := by
  refine ⟨⟨_, o, fun σ ρ h H a b x y Q hr ra rb p => ?_⟩, oII_ne⟩
  unfold oII at p
  split at p
  · split at p
    · rename_i i j h' hc
      cases ra
      cases rb
      exact ⟨_, _, rfl, rfl, hC _ _ hc, p ρ H _ hr (.refl _ _ _) (hg _ _ _ _ _ _)⟩
    · exact p.elim
  · exact p.elim
theorem op_of_I0 {gg : Value → Value → Sem Value} {g : Int → Int → Dv} {gv : Int → Int → V} (o : OpR X gg (rI0 gv)) (hg : ∀ K ρ h H i j, RelD K cl ρ h H (g i j) (gv i j)) : Op2 X cl gg (oII (fun _ _ => true) g) := by
  refine ⟨⟨_, o, fun σ ρ h H a b x y Q hr ra rb p => ?_⟩, oII_ne⟩
  unfold oII at p
  split at p
  · rename_i i j h'
    cases ra
    cases rb
    exact ⟨_, _, rfl, rfl, p ρ H _ hr (.refl _ _ _) (hg _ _ _ _ _ _)⟩
  · exact p.elim
def oSub := oII (fun _ _ => true) fun i j => .int (i - j)
def oLt := oII (fun _ _ => true) fun i j => .bl (decide (i < j))
def oLe := oII (fun _ _ => true) fun i j => .bl (decide (i ≤ j))
def oGt := oII (fun _ _ => true) fun i j => .bl (decide (j < i))
def oGe := oII (fun _ _ => true) fun i j => .bl (decide (j ≤ i))
def cDiv (i j : Int) : Bool := decide (j ≠ 0 ∧ j.natAbs < 1073741824)
def oDiv := oII cDiv fun i j => .int (i.fdiv j)
def oMod := oII (fun _ j => decide (j ≠ 0)) fun i j => .int (i.fmod j)
def cPow (i j : Int) : Bool := decide (0 ≤ j ∧ j ≤ 1000000 ∧ i.natAbs < 2 ^ 64)
def oPow := oII cPow fun i j => .int (i ^ j.toNat)
theorem op2_sub : Op2 X cl (binaryOp .Sub) oSub := op_of_I0 op_sub fun _ _ _ _ _ _ => .int _
theorem op2_lt : Op2 X cl (compareOp .Lt) oLt := op_of_I0 op_lt fun _ _ _ _ _ _ => .bl _
theorem op2_le : Op2 X cl (compareOp .LtE) oLe := op_of_I0 op_le fun _ _ _ _ _ _ => .bl _
theorem op2_gt : Op2 X cl (compareOp .Gt) oGt := op_of_I0 op_gt fun _ _ _ _ _ _ => .bl _
theorem op2_ge : Op2 X cl (compareOp .GtE) oGe := op_of_I0 op_ge fun _ _ _ _ _ _ => .bl _
theorem op2_div : Op2 X cl (binaryOp .FloorDiv) oDiv := op_of_II op_fdivN (fun i j h => by have h' := of_decide_eq_true h; exact h') fun _ _ _ _ _ _ => .int _
theorem op2_mod : Op2 X cl (binaryOp .Mod) oMod := op_of_II op_modN (fun i j h => by have h' := of_decide_eq_true h; exact h') fun _ _ _ _ _ _ => .int _
theorem op2_pow : Op2 X cl (binaryOp .Pow) oPow := op_of_II op_pow (fun i j h => by have h' := of_decide_eq_true h; exact h') fun _ _ _ _ _ _ => .int _

/-! ### + of ints and lists, * of ints, of a list and an int -/
def lineB (n : Nat) : Bool := decide (n ≤ 16777216)
theorem lineB_le {n : Nat} (h : lineB n = true) : n ≤ sizeLine := by
  rw [sizeLine_eq]
  exact of_decide_eq_true h
def oAdd : Dv → Dv → MH → Res Dv := fun a b h => match a, b with
  | .int i, .int j => .ok (.int (i + j)) h
  | a, b => match rdL h a, rdL h b with
    | some xs, some ys => if lineB (xs.length + ys.length) = true then .ok (.lst (xs ++ ys)) h else .stuck
    | _, _ => .stuck
theorem lstRd {pins : List (Addr × Obj)} {σ : St} {H : Hp} {s : Shared} {l : Addr} {xs : List V} (I : Inv X pins σ H s) (hH : Rd H l (.lst xs)) :
    xs.length ≤ sizeLine ∧ ∃ (its : List Value) (n : Nat), Vals xs its ∧ xs.length = its.length ∧ s.heap.get? l = some { cls := .type "list", data := .seq its.toArray n } := by
  obtain ⟨z, its, n, r, e⟩ := hH.ok I.hok
  exact ⟨z, its, n, r, r.length, e⟩
/-- + of two lists, however they lie -/
def rCatS : R2 := fun x y H Q => ∃ l b xs zs, x = .ref l ∧ y = .ref b ∧ Rd H l (.lst xs) ∧ Rd H b (.lst zs) ∧ xs.length + zs.length ≤ sizeLine ∧ ∀ p, H p = none → Q (.ref p) (upd H p (.lst (xs ++ zs)))
theorem op_catS : OpR X (binaryOp .Add) rCatS := by
  intro pins s σ H x y v u Q I rx ry h
  obtain ⟨l, b, xs, zs, rfl, rfl, hH, hB, hz, q⟩ := h
  cases rx
  cases ry
  obtain ⟨z, its, n, r, hl, e⟩ := lstRd I hH
  obtain ⟨z2, its2, n2, r2, hl2, e2⟩ := lstRd I hB
  refine PySem.P.add_list e e2 ?_ (by rw [List.size_toArray, List.size_toArray]; omega)
  have ea : its.toArray ++ its2.toArray = (its ++ its2).toArray := by simp
  rw [ea]
  exact ⟨.ref _, _, I.lnew (t' := s.toks) (r.append r2) (by rw [List.length_append]; omega), rfl, q _ I.fresh⟩
theorem new_lst {σ : St} {W : WX} {ρ : Rho} {h : MH} {H : Hp} {xs : List Dv} {vs : List V} {Q : VK} (hr : HRel X.K cl ρ h H) (rs : RelDs X.K cl ρ h H xs vs) (p : Post X.K cl (RD X.K cl) W σ ρ h H (.ok (.lst xs) h) Q) :
    ∀ q, H q = none → Q (.ref q) (upd H q (.lst vs)) := fun q hq => by
  obtain ⟨h1, h2, h3⟩ := hr.newV (o := .lst vs) hq
  exact p ρ _ _ h1 h2 (.lst upd_same h3 (rs.mono h2))
theorem new_tup {σ : St} {W : WX} {ρ : Rho} {h : MH} {H : Hp} {xs : List Dv} {vs : List V} {Q : VK} (hr : HRel X.K cl ρ h H) (rs : RelDs X.K cl ρ h H xs vs) (p : Post X.K cl (RD X.K cl) W σ ρ h H (.ok (.tup xs) h) Q) :
    ∀ q, H q = none → Q (.ref q) (upd H q (.tup vs)) := fun q hq => by
  obtain ⟨h1, h2, h3⟩ := hr.newV (o := .tup vs) hq
  exact p ρ _ _ h1 h2 (.tup (.inl ⟨upd_same, h3⟩) (rs.mono h2))
theorem op2_add : Op2 X cl (binaryOp .Add) oAdd := by
  refine ⟨⟨_, op_add.or op_catS, fun σ ρ h H a b x y Q hr ra rb p => ?_⟩, fun a b h => ?_⟩
  · unfold oAdd at p
    split at p
    · cases ra
      cases rb
      exact .inl ⟨_, _, rfl, rfl, p ρ H _ hr (.refl _ _ _) (.int _)⟩
    · split at p
      · rename_i xs ys ea eb
        split at p
        · rename_i hl
          obtain ⟨l, us, rfl, su, ru⟩ := rdL_rel hr ra ea
          obtain ⟨m, ws, rfl, sw, rw'⟩ := rdL_rel hr rb eb
          refine .inr ⟨l, m, us, ws, rfl, rfl, .inl su, .inl sw, by rw [← ru.length, ← rw'.length]; exact lineB_le hl, new_lst hr (ru.append rw') p⟩
        · exact p.elim
      · exact p.elim
  · unfold oAdd
    split
    · trivial
    · split
      · split <;> trivial
      · trivial

/-! ### * -/
def rRepS : R2 := fun x y H Q => ∃ l k xs, x = .ref l ∧ y = .int k ∧ Rd H l (.lst xs) ∧ -(2 ^ 63) ≤ k ∧ k < 2 ^ 63 ∧ xs.length * k.toNat ≤ sizeLine ∧
  ∀ p, H p = none → Q (.ref p) (upd H p (.lst (List.replicate k.toNat xs).flatten))
theorem op_repS : OpR X (binaryOp .Mult) rRepS := by
  intro pins s σ H x y v u Q I rx ry h
  obtain ⟨l, k, xs, rfl, rfl, hH, h1, h2, hz, q⟩ := h
  cases rx
  obtain ⟨t, rfl⟩ := ry
  obtain ⟨z, its, n, r, hl, e⟩ := lstRd I hH
  have hlen : its.toArray.size * k.toNat ≤ sizeLine := by rw [List.size_toArray, ← hl]; exact hz
  have hcap : ¬ its.toArray.size * k.toNat > (2 ^ 63 - 1) / 8 := by
    have : (sizeLine : Nat) ≤ (2 ^ 63 - 1) / 8 := by decide
    omega
  have hfit : ¬ (!Builtin.List.listFitsIndex k) = true := by
    rw [fitsIndex_both h1 h2]
    exact Bool.false_ne_true
  have hlong : ¬ Builtin.List.listTooLong (its.toArray.size * k.toNat) = true := by
    rw [notLongL hlen]
    exact Bool.false_ne_true
  have hnew : List.foldl (fun x1 x2 => x1 ++ x2) #[] (List.replicate (if its.toArray.isEmpty = true then 0 else k.toNat) its.toArray) = (List.replicate k.toNat its).flatten.toArray := by
    have f0 : ∀ m : Nat, List.foldl (fun x1 x2 => x1 ++ x2) #[] (List.replicate m its.toArray) = (List.replicate m its).flatten.toArray := fun m => by
      have := foldl_rep its m []
      rw [List.nil_append] at this
      exact this
    rw [f0]
    cases its with
    | nil => simp
    | cons a r' => rw [if_neg (by simp)]
  refine wpAny_binaryOp_repeat_ref (T := "list") (U := "int") (by decide) ⟨_, e, rfl⟩ (fun s' => typeIs_int s' k t) noFill_list_mul F.fills_int_mul F.slot_int_rmul repeat_list F.slot_int_index.lookup
    (call_meets F.slot_int_rmul (typeIs_int s k t) F.entry_int_rmul (F.args_int_rmul_2 _ _) (int___rmul___int_list k t l its.toArray n)
      ⟨e, rfl, ⟨_, e, rfl⟩, call_meets F.slot_list_mul ⟨_, e, rfl⟩ F.entry_list_mul (F.args_list_mul_2 _ _) (AutoListH.list___mul___list_int_3 l its.toArray n k t hfit hcap hlong) ⟨e, ?_⟩⟩)
  rw [hnew]
  exact ⟨.ref _, _, I.lnew (t' := s.toks) (r.rep k.toNat) (by rw [PyProof.Rows.lm_len_rep_flat, Nat.mul_comm]; exact hz), rfl, q _ I.fresh⟩
def cMul (i j : Int) : Bool := decide ((-(2 ^ 64) < i ∧ i < 2 ^ 64) ∨ (-(2 ^ 64) < j ∧ j < 2 ^ 64))
def repD (xs : List Dv) (k : Nat) : List Dv := (List.replicate k xs).flatten
theorem rep_rel {K : PySem.W.Frag} {ρ : Rho} {h : MH} {H : Hp} {xs : List Dv} {vs : List V} (r : RelDs K cl ρ h H xs vs) : ∀ k, RelDs K cl ρ h H (repD xs k) (List.replicate k vs).flatten
  | 0 => .nil
  | k + 1 => by
    unfold repD
    rw [List.replicate_succ, List.replicate_succ, List.flatten_cons, List.flatten_cons]
    exact r.append (rep_rel r k)
def oMul : Dv → Dv → MH → Res Dv := fun a b h => match a, b with
  | .int i, .int j => if cMul i j = true then .ok (.int (i * j)) h else .stuck
  | a, .int k => match rdL h a with
    | some xs => if (decide (-(2 ^ 63) ≤ k ∧ k < 2 ^ 63) && lineB (xs.length * k.toNat)) = true then .ok (.lst (repD xs k.toNat)) h else .stuck
    | none => .stuck
  | _, _ => .stuck
theorem op2_mul : Op2 X cl (binaryOp .Mult) oMul := by
  refine ⟨⟨_, op_mul.or op_repS, fun σ ρ h H a b x y Q hr ra rb p => ?_⟩, fun a b h => ?_⟩
  · unfold oMul at p
    split at p
    · split at p
      · rename_i hc
        cases ra
        cases rb
        exact .inl ⟨_, _, rfl, rfl, (by have h' := of_decide_eq_true hc; exact h'), p ρ H _ hr (.refl _ _ _) (.int _)⟩
      · exact p.elim
    · split at p
      · rename_i xs ea
        split at p
        · rename_i hc
          rw [Bool.and_eq_true] at hc
          have h1 := of_decide_eq_true hc.1
          cases rb
          obtain ⟨l, us, rfl, su, ru⟩ := rdL_rel hr ra ea
          refine .inr ⟨l, _, us, rfl, rfl, .inl su, h1.1, h1.2, by rw [← ru.length]; exact lineB_le hc.2, new_lst hr (rep_rel ru _) p⟩
        · exact p.elim
      · exact p.elim
    · exact p.elim
  · unfold oMul
    split
    · split <;> trivial
    · split
      · split <;> trivial
      · trivial
    · trivial
/-! ### -x -/
def oNeg : Dv → MH → Res Dv
  | .int i, h => .ok (.int (-i)) h
  | _, _ => .stuck
variable {W : WX} {pos : Pos} {a b : Expr} {ma mb : ME}
theorem je_neg (ha : JE cl W X a ma) : JE cl W X (.UnaryOp .USub a pos) (eOp1 oNeg ma) := by
  refine pe_imp (pe_un un_neg ha) fun σ H Q q => ?_
  refine tM_bind (f := fun _ => oNeg) q fun τ ρ1 h1 H1 x v hr1 er1 r1 p1 => ?_
  cases r1 with
  | int i => exact ⟨i, rfl, p1 ρ1 H1 _ hr1 (.refl _ _ _) (.int _)⟩
  | _ => exact p1.elim

/-! ### == and != over data -/
def optAll {α : Type} : List (Option α) → Option (List α)
  | [] => some []
  | some x :: r => (optAll r).map (x :: ·)
  | none :: _ => none
def pyOf (h : MH) : Nat → Dv → Option PyData
  | _, .non => some .none
  | _, .bl b => some (.bool b)
  | _, .int i => some (.int i)
  | _, .str x => if PyData.strOk x = true then some (.str x) else none
  | n + 1, .lst xs => (optAll (xs.map (pyOf h n))).map .list
  | n + 1, .kls xs => (optAll (xs.map (pyOf h n))).map .list
  | n + 1, .tup xs => (optAll (xs.map (pyOf h n))).map .tuple
  | n + 1, .obj i => match h[i]? with
    | some (.lst xs) => (optAll (xs.map (pyOf h n))).map .list
    | _ => none
  | _, _ => none
theorem optAll_get {α : Type} : ∀ {l : List (Option α)} {r : List α}, optAll l = some r → l = r.map some
  | [], _, e => by cases e; rfl
  | some x :: l, r, e => by
    unfold optAll at e
    cases h : optAll l with
    | none => rw [h] at e; cases e
    | some r' =>
      rw [h] at e
      cases e
      rw [optAll_get h]; rfl
  | none :: l, r, e => by cases e
theorem optAll_some {α : Type} : ∀ (r : List α), optAll (r.map some) = some r
  | [] => rfl
  | x :: r => by
    show (optAll (r.map some)).map (x :: ·) = _
    rw [optAll_some r]; rfl
/-- items that lie one by one -/
theorem dpAll_of {K : PySem.W.Frag} {ρ : Rho} {h : MH} {H : Hp} {n : Nat} (hr : HRel K cl ρ h H) (ih : ∀ {d : Dv} {v : V} {p : PyData}, RelD K cl ρ h H d v → pyOf h n d = some p → Dp K H v p) :
    ∀ {xs : List Dv} {vs : List V} {ps : List PyData}, RelDs K cl ρ h H xs vs → optAll (xs.map (pyOf h n)) = some ps → DpAll K H vs ps
  | [], _, _, .nil, e => by cases e; exact .nil
  | x :: xs, _, _, .cons r rs, e => by
    rw [List.map_cons] at e
    cases hx : pyOf h n x with
    | none => rw [hx] at e; cases e
    | some p =>
      rw [hx] at e
      unfold optAll at e
      cases hy : optAll (xs.map (pyOf h n)) with
      | none => rw [hy] at e; cases e
      | some ps =>
        rw [hy] at e
        cases e
        exact .cons (ih r hx) (dpAll_of hr ih rs hy)
theorem pyOf_rel {K : PySem.W.Frag} {ρ : Rho} {h : MH} {H : Hp} (hr : HRel K cl ρ h H) : ∀ (n : Nat) {d : Dv} {v : V} {p : PyData}, RelD K cl ρ h H d v → pyOf h n d = some p → Dp K H v p := by
  intro n
  induction n with
  | zero =>
    intro d v p r e
    cases r with
    | non => unfold pyOf at e; cases e; exact .non
    | bl b => unfold pyOf at e; cases e; exact .bl b
    | int i => unfold pyOf at e; cases e; exact .int i
    | str x =>
      unfold pyOf at e
      split at e
      · cases e; exact .str x
      · cases e
    | _ => unfold pyOf at e; cases e
  | succ n ih =>
    intro d v p r e
    have all : ∀ {xs : List Dv} {vs : List V} {ps : List PyData}, RelDs K cl ρ h H xs vs → optAll (xs.map (pyOf h n)) = some ps → DpAll K H vs ps := fun r e => dpAll_of hr ih r e
    cases r with
    | non => unfold pyOf at e; cases e; exact .non
    | bl b => unfold pyOf at e; cases e; exact .bl b
    | int i => unfold pyOf at e; cases e; exact .int i
    | str x =>
      unfold pyOf at e
      split at e
      · cases e; exact .str x
      · cases e
    | @lst a xs vs q nl rs =>
      unfold pyOf at e
      cases hx : optAll (xs.map (pyOf h n)) with
      | none => rw [hx] at e; cases e
      | some ps => rw [hx] at e; cases e; exact .lst (.of q) (all rs hx)
    | @kls a xs vs q rs =>
      unfold pyOf at e
      cases hx : optAll (xs.map (pyOf h n)) with
      | none => rw [hx] at e; cases e
      | some ps => rw [hx] at e; cases e; exact .lst (sqL_of q) (all rs hx)
    | @tup a xs vs q rs =>
      unfold pyOf at e
      cases hx : optAll (xs.map (pyOf h n)) with
      | none => rw [hx] at e; cases e
      | some ps => rw [hx] at e; cases e; exact .tup (sqT_of q) (all rs hx)
    | @obj i a q =>
      unfold pyOf at e
      split at e
      · rename_i xs hi
        obtain ⟨b, hb, vs, e1, rs⟩ := hr.cells i _ hi
        rw [q] at hb; cases hb
        cases hx : optAll (xs.map (pyOf h n)) with
        | none => rw [hx] at e; cases e
        | some ps => rw [hx] at e; cases e; exact .lst (.of e1) (all rs hx)
      · cases e
    | _ => unfold pyOf at e; cases e
theorem lay_all {h : MH} {n : Nat} (ih : ∀ {d : Dv} {p : PyData}, pyOf h n d = some p → p.canLay0 = true ∧ p.depth ≤ n) :
    ∀ {xs : List Dv} {ps : List PyData}, optAll (xs.map (pyOf h n)) = some ps → PyData.canLayAll0 ps = true ∧ PyData.depthAll ps ≤ n
  | [], _, e => by cases e; exact ⟨by simp only [PyData.canLayAll0], by simp only [PyData.depthAll]; omega⟩
  | x :: xs, _, e => by
    rw [List.map_cons] at e
    cases hx : pyOf h n x with
    | none => rw [hx] at e; cases e
    | some p =>
      rw [hx] at e
      unfold optAll at e
      cases hy : optAll (xs.map (pyOf h n)) with
      | none => rw [hy] at e; cases e
      | some ps =>
        rw [hy] at e
        cases e
        obtain ⟨h1, h2⟩ := ih hx
        obtain ⟨h3, h4⟩ := lay_all ih hy
        refine ⟨by simp only [PyData.canLayAll0, h1, h3, Bool.and_self], by simp only [PyData.depthAll]; omega⟩
theorem pyOf_lay {h : MH} : ∀ (n : Nat) {d : Dv} {p : PyData}, pyOf h n d = some p → p.canLay0 = true ∧ p.depth ≤ n := by
  intro n
  induction n with
  | zero =>
    intro d p e
    cases d with
    | non => unfold pyOf at e; cases e; exact ⟨by simp only [PyData.canLay0], by simp only [PyData.depth]; omega⟩
    | bl b => unfold pyOf at e; cases e; exact ⟨by simp only [PyData.canLay0], by simp only [PyData.depth]; omega⟩
    | int i => unfold pyOf at e; cases e; exact ⟨by simp only [PyData.canLay0], by simp only [PyData.depth]; omega⟩
    | str x =>
      unfold pyOf at e
      split at e
      · rename_i hs; cases e; exact ⟨by simp only [PyData.canLay0, hs], by simp only [PyData.depth]; omega⟩
      · cases e
    | _ => unfold pyOf at e; cases e
  | succ n ih =>
    intro d p e
    have all : ∀ {xs : List Dv} {ps : List PyData}, optAll (xs.map (pyOf h n)) = some ps → PyData.canLayAll0 ps = true ∧ PyData.depthAll ps ≤ n := fun e => lay_all ih e
    have lk : ∀ {xs : List Dv}, (optAll (xs.map (pyOf h n))).map PyData.list = some p → p.canLay0 = true ∧ p.depth ≤ n + 1 := fun {xs} e => by
      cases hx : optAll (xs.map (pyOf h n)) with
      | none => rw [hx] at e; cases e
      | some ps =>
        rw [hx] at e; cases e
        obtain ⟨h1, h2⟩ := all hx
        exact ⟨by simp only [PyData.canLay0, h1], by simp only [PyData.depth]; omega⟩
    cases d with
    | non => unfold pyOf at e; cases e; exact ⟨by simp only [PyData.canLay0], by simp only [PyData.depth]; omega⟩
    | bl b => unfold pyOf at e; cases e; exact ⟨by simp only [PyData.canLay0], by simp only [PyData.depth]; omega⟩
    | int i => unfold pyOf at e; cases e; exact ⟨by simp only [PyData.canLay0], by simp only [PyData.depth]; omega⟩
    | str x =>
      unfold pyOf at e
      split at e
      · rename_i hs; cases e; exact ⟨by simp only [PyData.canLay0, hs], by simp only [PyData.depth]; omega⟩
      · cases e
    | lst xs => unfold pyOf at e; exact lk e
    | kls xs => unfold pyOf at e; exact lk e
    | tup xs =>
      unfold pyOf at e
      cases hx : optAll (xs.map (pyOf h n)) with
      | none => rw [hx] at e; cases e
      | some ps =>
        rw [hx] at e; cases e
        obtain ⟨h1, h2⟩ := all hx
        exact ⟨by simp only [PyData.canLay0, h1], by simp only [PyData.depth]; omega⟩
    | obj i =>
      unfold pyOf at e
      split at e
      · exact lk e
      · cases e
    | _ => unfold pyOf at e; cases e
theorem shaped_of {h : MH} {n : Nat} {d : Dv} {p : PyData} (e : pyOf h n d = some p) (hn : n ≤ 64 := by decide) : SeqAt.shaped p = true := by
  obtain ⟨h1, h2⟩ := pyOf_lay n e
  unfold SeqAt.shaped
  rw [h1, decide_eq_true (Nat.le_trans h2 hn)]
  rfl
/-- == of data; none: not carried -/
def pyEq (h : MH) (a b : Dv) : Option Bool := match pyOf h 12 a, pyOf h 12 b with
  | some p, some q => some (PyData.eqv p q)
  | _, _ => none
def oEq : Dv → Dv → MH → Res Dv := fun a b h => match pyEq h a b with
  | some r => .ok (.bl r) h
  | none => .stuck
def oNe : Dv → Dv → MH → Res Dv := fun a b h => match pyEq h a b with
  | some r => .ok (.bl (!r)) h
  | none => .stuck
theorem op2_eq (hu : X.A.units + 64 < cLine) : Op2 X cl (compareOp .Eq) oEq := by
  refine ⟨⟨_, op_eqD hu, fun σ ρ h H a b x y Q hr ra rb p => ?_⟩, fun a b h => ?_⟩
  · unfold oEq pyEq at p
    cases ea : pyOf h 12 a with
    | none => simp only [ea] at p; exact p.elim
    | some pa =>
      cases eb : pyOf h 12 b with
      | none => simp only [ea, eb] at p; exact p.elim
      | some pb =>
        simp only [ea, eb] at p
        exact ⟨pa, pb, pyOf_rel hr 12 ra ea, pyOf_rel hr 12 rb eb, shaped_of ea, shaped_of eb, p ρ H _ hr (.refl _ _ _) (.bl _)⟩
  · unfold oEq
    split <;> trivial
theorem op2_ne (hu : X.A.units + 64 < cLine) : Op2 X cl (compareOp .NotEq) oNe := by
  refine ⟨⟨_, op_neD hu, fun σ ρ h H a b x y Q hr ra rb p => ?_⟩, fun a b h => ?_⟩
  · unfold oNe pyEq at p
    cases ea : pyOf h 12 a with
    | none => simp only [ea] at p; exact p.elim
    | some pa =>
      cases eb : pyOf h 12 b with
      | none => simp only [ea, eb] at p; exact p.elim
      | some pb =>
        simp only [ea, eb] at p
        exact ⟨pa, pb, pyOf_rel hr 12 ra ea, pyOf_rel hr 12 rb eb, shaped_of ea, shaped_of eb, p ρ H _ hr (.refl _ _ _) (.bl _)⟩
  · unfold oNe
    split <;> trivial
/-! ### in, not in: a list of data; a tuple of flat things -/
def flatD : Dv → Option PyData
  | .non => some .none
  | .bl b => some (.bool b)
  | .int i => some (.int i)
  | .str x => some (.str x)
  | _ => none
def pyIn (h : MH) (a b : Dv) : Option Bool := match b with
  | .tup xs => match flatD a, optAll (xs.map flatD) with
    | some p, some ps => some (ps.any fun z => PyData.eqv z p)
    | _, _ => none
  | b => match pyOf h 12 a, pyOf h 12 b with
    | some p, some (.list ps) => some (ps.any fun z => PyData.eqv z p)
    | _, _ => none
def oIn : Dv → Dv → MH → Res Dv := fun a b h => match pyIn h a b with
  | some r => .ok (.bl r) h
  | none => .stuck
def oNotIn : Dv → Dv → MH → Res Dv := fun a b h => match pyIn h a b with
  | some r => .ok (.bl (!r)) h
  | none => .stuck
theorem flatD_rel {K : PySem.W.Frag} {ρ : Rho} {h : MH} {H : Hp} {d : Dv} {v : V} {p : PyData} (r : RelD K cl ρ h H d v) (e : flatD d = some p) : flatV v = true ∧ (∀ {d' : Dv} {v' : V} {p' : PyData}, RelD K cl ρ h H d' v' → flatD d' = some p' → eqV v v' = PyData.eqv p p') := by
  cases r with
  | non =>
    cases e
    refine ⟨rfl, fun {d' v' p'} r' e' => ?_⟩
    cases r' with
    | non => cases e'; simp [eqV, PyData.eqv]
    | bl b => cases e'; simp [eqV, PyData.eqv]
    | int b => cases e'; simp [eqV, PyData.eqv]
    | str b => cases e'; simp [eqV, PyData.eqv]
    | _ => cases e'
  | bl b =>
    cases e
    refine ⟨rfl, fun {d' v' p'} r' e' => ?_⟩
    cases r' with
    | non => cases e'; simp [eqV, PyData.eqv]
    | bl b => cases e'; simp [eqV, PyData.eqv]
    | int b => cases e'; simp [eqV, PyData.eqv]
    | str b => cases e'; simp [eqV, PyData.eqv]
    | _ => cases e'
  | int b =>
    cases e
    refine ⟨rfl, fun {d' v' p'} r' e' => ?_⟩
    cases r' with
    | non => cases e'; simp [eqV, PyData.eqv]
    | bl b => cases e'; simp [eqV, PyData.eqv]
    | int b => cases e'; simp [eqV, PyData.eqv]
    | str b => cases e'; simp [eqV, PyData.eqv]
    | _ => cases e'
  | str b =>
    cases e
    refine ⟨rfl, fun {d' v' p'} r' e' => ?_⟩
    cases r' with
    | non => cases e'; simp [eqV, PyData.eqv]
    | bl b => cases e'; simp [eqV, PyData.eqv]
    | int b => cases e'; simp [eqV, PyData.eqv]
    | str b => cases e'; simp [eqV, PyData.eqv]
    | _ => cases e'
  | _ => cases e
end
end L2.Mi

/-! MiOps3: in, is, subscripts, slices, built-in calls. -/
namespace L2.Mi
open PySem PySem.Spec PyProof.Rows
section
variable {X : Cx} {cl : Str → Option Addr}
theorem flats_rel {K : PySem.W.Frag} {ρ : Rho} {h : MH} {H : Hp} {x : V} {p : PyData} (hx : ∀ {d' : Dv} {v' : V} {p' : PyData}, RelD K cl ρ h H d' v' → flatD d' = some p' → eqV v' x = PyData.eqv p' p) :
    ∀ {ds : List Dv} {vs : List V} {ps : List PyData}, RelDs K cl ρ h H ds vs → optAll (ds.map flatD) = some ps → vs.all flatV = true ∧ (vs.any fun y => eqV y x) = ps.any fun z => PyData.eqv z p
  | [], _, _, .nil, e => by cases e; exact ⟨rfl, rfl⟩
  | d :: ds, _, _, .cons r rs, e => by
    rw [List.map_cons] at e
    cases hd : flatD d with
    | none => rw [hd] at e; cases e
    | some q =>
      rw [hd] at e
      unfold optAll at e
      cases hy : optAll (ds.map flatD) with
      | none => rw [hy] at e; cases e
      | some ps =>
        rw [hy] at e
        cases e
        obtain ⟨h1, h2⟩ := flats_rel hx rs hy
        refine ⟨by rw [List.all_cons, (flatD_rel r hd).1, h1]; rfl, ?_⟩
        rw [List.any_cons, List.any_cons, hx r hd, h2]
theorem in_sound {neg : Bool} {r1 r2 : R2} (e1 : r1 = rIn X.K neg) (e2 : r2 = fun x y H Q => ∃ d ds, Dp X.K H x d ∧ Dp X.K H y (.list ds) ∧ SeqAt.shaped d = true ∧ SeqAt.shaped (.list ds) = true ∧ Q (.bl (if neg then !ds.any fun z => PyData.eqv z d else ds.any fun z => PyData.eqv z d)) H)
    {σ : St} {ρ : Rho} {h : MH} {H : Hp} {a b : Dv} {x y : V} {Q : VK} (hr : HRel X.K cl ρ h H) (ra : RelD X.K cl ρ h H a x) (rb : RelD X.K cl ρ h H b y) {r : Bool} (e : pyIn h a b = some r)
    (p : Q (.bl (if neg then !r else r)) H) : r1 x y H Q ∨ r2 x y H Q := by
  subst e1 e2
  unfold pyIn at e
  split at e
  · rename_i xs
    split at e
    · rename_i pa ps ea es
      cases e
      cases rb with
      | @tup q _ vs qq rs =>
        left
        have hx := fun {d' : Dv} {v' : V} {p' : PyData} (r' : RelD X.K cl ρ h H d' v') (e' : flatD d' = some p') => (flatD_rel r' e').2 ra ea
        obtain ⟨h1, h2⟩ := flats_rel (x := x) (p := pa) hx rs es
        refine ⟨q, vs, rfl, .inr (sqT_of qq), (flatD_rel ra ea).1, h1, ?_⟩
        unfold inV
        rw [h2]
        exact p
    · cases e
  · split at e
    · rename_i pa ps ea eb
      cases e
      exact .inr ⟨pa, ps, pyOf_rel hr 12 ra ea, pyOf_rel hr 12 rb eb, shaped_of ea, shaped_of eb, p⟩
    · cases e
theorem op2_in (hu : X.A.units + 65 < cLine) : Op2 X cl (compareOp .In) oIn := by
  refine ⟨⟨_, op_in_seq.or (op_inD hu), fun σ ρ h H a b x y Q hr ra rb p => ?_⟩, fun a b h => ?_⟩
  · unfold oIn at p
    split at p
    · rename_i r e
      exact in_sound (neg := false) rfl (by rfl) hr ra rb e (σ := σ) (p ρ H _ hr (.refl _ _ _) (.bl _))
    · exact p.elim
  · unfold oIn
    split <;> trivial
theorem op2_notIn (hu : X.A.units + 65 < cLine) : Op2 X cl (compareOp .NotIn) oNotIn := by
  refine ⟨⟨_, op_notIn_seq.or (op_notInD hu), fun σ ρ h H a b x y Q hr ra rb p => ?_⟩, fun a b h => ?_⟩
  · unfold oNotIn at p
    split at p
    · rename_i r e
      exact in_sound (neg := true) rfl (by rfl) hr ra rb e (σ := σ) (p ρ H _ hr (.refl _ _ _) (.bl _))
    · exact p.elim
  · unfold oNotIn
    split <;> trivial
/-! ### is -/
def isN : Dv → Bool
  | .non => true
  | _ => false
theorem isN_rel {K : PySem.W.Frag} {ρ : Rho} {h : MH} {H : Hp} {d : Dv} {v : V} (r : RelD K cl ρ h H d v) : decide (v = .non) = isN d := by
  cases r with
  | non => rfl
  | _ => exact decide_eq_false (fun z => nomatch z)
def oIs : Dv → Dv → MH → Res Dv
  | a, .non, h => .ok (.bl (isN a)) h
  | .bl a, .bl b, h => .ok (.bl (decide (a = b))) h
  | _, _, _ => .stuck
def oIsNot : Dv → Dv → MH → Res Dv
  | a, .non, h => .ok (.bl (!isN a)) h
  | _, _, _ => .stuck
theorem op2_is : Op2 X cl (compareOp .Is) oIs := by
  refine ⟨⟨_, op_isN.or op_isBl, fun σ ρ h H a b x y Q hr ra rb p => ?_⟩, fun a b h => ?_⟩
  · unfold oIs at p
    split at p
    · cases rb
      refine .inl ⟨rfl, ?_⟩
      rw [isN_rel ra]
      exact p ρ H _ hr (.refl _ _ _) (.bl _)
    · cases ra
      cases rb
      exact .inr ⟨_, _, rfl, rfl, p ρ H _ hr (.refl _ _ _) (.bl _)⟩
    · exact p.elim
  · unfold oIs
    split <;> trivial
theorem op2_isNot : Op2 X cl (compareOp .IsNot) oIsNot := by
  refine ⟨⟨_, op_notN, fun σ ρ h H a b x y Q hr ra rb p => ?_⟩, fun a b h => ?_⟩
  · unfold oIsNot at p
    split at p
    · cases rb
      refine ⟨rfl, ?_⟩
      rw [isN_rel ra]
      exact p ρ H _ hr (.refl _ _ _) (.bl _)
    · exact p.elim
  · unfold oIsNot
    split <;> trivial

/-! ### subscripts -/
theorem ixN_len {n : Nat} {i : Int} {j : Nat} (e : ixN n i = some j) : j < n := (ixN_seq e).2.1
theorem atI_rel {K : PySem.W.Frag} {ρ : Rho} {h : MH} {H : Hp} {ds : List Dv} {vs : List V} {i : Int} {d : Dv} (rs : RelDs K cl ρ h H ds vs) (e : atI ds i = some d) : ∃ v, atI vs i = some v ∧ RelD K cl ρ h H d v := by
  unfold atI at e
  cases hj : ixN ds.length i with
  | none => rw [hj] at e; cases e
  | some j =>
    rw [hj] at e
    obtain ⟨v, h1, h2⟩ := rs.get (show ds[j]? = some d from e)
    refine ⟨v, ?_, h2⟩
    unfold atI
    rw [← rs.length, hj]
    exact h1
/-- the items of a list or a tuple -/
def rdS (h : MH) : Dv → Option (List Dv)
  | .tup xs => some xs
  | d => rdL h d
def oIx : Dv → Dv → MH → Res Dv
  | a, .int i, h => match (rdS h a).bind fun xs => atI xs i with
    | some d => .ok d h
    | none => .stuck
  | _, _, _ => .stuck
theorem rdS_rel {K : PySem.W.Frag} {ρ : Rho} {h : MH} {H : Hp} (r : HRel K cl ρ h H) {d : Dv} {v : V} {xs : List Dv} (rd : RelD K cl ρ h H d v) (e : rdS h d = some xs) : ∃ a vs, v = .ref a ∧ (SqL K H a vs ∨ SqT K H a vs) ∧ RelDs K cl ρ h H xs vs := by
  unfold rdS at e
  split at e
  · cases e
    obtain ⟨a, vs, e1, q, rs⟩ := rdT_rel rd rfl
    exact ⟨a, vs, e1, .inr q, rs⟩
  · obtain ⟨a, vs, e1, q, rs⟩ := rdL_rel r rd e
    exact ⟨a, vs, e1, .inl (.of q), rs⟩
variable {W : WX} {pos : Pos} {a b : Expr} {ma mb : ME}
theorem je_ix (ha : JE cl W X a ma) (hb : JE cl W X b mb) (hs : PlainIx b) : JE cl W X (.Subscript a b pos) (eOp2 oIx ma mb) := by
  refine pe_imp (pe_ix (ix_list.or ix_tup) ha hb hs) fun σ H Q q => ?_
  refine two_of (f := oIx) (r := fun x y H Q => rIxL X.K x y H Q ∨ rIxT X.K x y H Q) (fun σ ρ h H a b x y Q hr ra rb p => ?_) (fun a b h => ?_) q
  · cases rb with
    | int i =>
      have p : Post X.K cl (RD X.K cl) (fun _ _ _ _ => False) σ ρ h H (match (rdS h a).bind fun xs => atI xs i with
        | some d => .ok d h
        | none => .stuck) Q := p
      cases hx : rdS h a with
      | none => rw [hx] at p; exact p.elim
      | some xs =>
        rw [hx] at p
        cases hd : atI xs i with
        | none => simp only [Option.bind_some, hd] at p; exact p.elim
        | some d =>
          simp only [Option.bind_some, hd] at p
          obtain ⟨l, vs, e1, qq, rs⟩ := rdS_rel hr ra hx
          obtain ⟨v, e2, r2⟩ := atI_rel rs hd
          have p' := p ρ H v hr (.refl _ _ _) r2
          rcases qq with qq | qq
          · exact .inl ⟨l, vs, _, v, e1, rfl, qq, e2, p'⟩
          · exact .inr ⟨l, vs, _, v, e1, rfl, qq, e2, p'⟩
    | _ => exact p.elim
  · cases b with
    | int i =>
      show NoErr (match (rdS h a).bind fun xs => atI xs i with
        | some d => .ok d h
        | none => .stuck)
      split <;> trivial
    | _ => trivial
/-! ### slices -/
def cutD (xs : List Dv) (lo hi : Option Int) : List Dv := (xs.drop (HT.sIx xs.length 0 lo)).take (HT.sIx xs.length xs.length hi - HT.sIx xs.length 0 lo)
theorem cut_rel {K : PySem.W.Frag} {ρ : Rho} {h : MH} {H : Hp} {ds : List Dv} {vs : List V} (rs : RelDs K cl ρ h H ds vs) (lo hi : Option Int) : RelDs K cl ρ h H (cutD ds lo hi) (cutV vs lo hi) := by
  unfold cutD cutV
  rw [← rs.length]
  exact (rs.drop _).take _
/-- a part of a slice -/
abbrev MO := MEnv → MH → Res (Option Int)
def mNoPart : MO := fun _ h => .ok none h
def asI : Dv → MH → Res (Option Int)
  | .int i, h => .ok (some i) h
  | _, _ => .stuck
def mPart (m : ME) : MO := fun τ h => (m τ h).bind asI
abbrev RO : Rho → MH → Hp → Option Int → Option Int → Prop := fun _ _ _ a b => a = b
abbrev JO (cl : Str → Option Addr) (W : WX) (X : Cx) (e : Option Expr) (m : MO) : Prop := PO X e (tM X.K cl RO W m)
theorem jo_none : JO cl W X none mNoPart := ⟨fun pins s σ H Q I q => po_none.run pins s σ H Q I (by
  obtain ⟨τ, ρ, h, hr, er, p⟩ := q
  exact p ρ H none hr (.refl _ _ _) rfl)⟩
theorem jo_some (h : JE cl W X a ma) : JO cl W X (some a) (mPart ma) := ⟨fun pins s σ H Q I q => (po_some h).run pins s σ H Q I (by
  refine tM_bind (R1 := RD X.K cl) (f := fun _ => asI) q fun τ ρ1 h1 H1 x v hr1 er1 r1 p1 => ?_
  cases r1 with
  | int i => exact ⟨i, rfl, p1 ρ1 H1 _ hr1 (.refl _ _ _) rfl⟩
  | _ => exact p1.elim)⟩
def oSl (d : Dv) (lo hi : Option Int) (h : MH) : Res Dv := match d with
  | .tup xs => if (decide (HT.sIx xs.length 0 lo = 0 ∧ HT.sIx xs.length xs.length hi = xs.length)) = true then .stuck else .ok (.tup (cutD xs lo hi)) h
  | d => match rdL h d with
    | some xs => .ok (.lst (cutD xs lo hi)) h
    | none => .stuck
def eSl (m : ME) (lo hi : MO) : ME := fun τ h => (m τ h).bind fun d h1 => (lo τ h1).bind fun l h2 => (hi τ h2).bind fun u h3 => oSl d l u h3
theorem je_slice {lo hi : Option Expr} {ml mu : MO} {p2 : Pos} (ha : JE cl W X a ma) (hl : JO cl W X lo ml) (hu : JO cl W X hi mu) : JE cl W X (.Subscript a (.Slice lo hi none p2) pos) (eSl ma ml mu) := by
  refine pe_imp (pe_slice (sl_list.or sl_tup) ha hl hu) fun σ H Q q => ?_
  refine tM_bind (R1 := RD X.K cl) (f := fun τ d h1 => (ml τ h1).bind fun l h2 => (mu τ h2).bind fun u h3 => oSl d l u h3) q fun τ ρ1 h1 H1 d v hr1 er1 r1 p1 => ?_
  refine ⟨τ, ρ1, h1, hr1, er1, Post.bind p1 fun l h2 ρ2 H2 l' hr2 e2 r2 p2 => ?_⟩
  refine ⟨τ, ρ2, h2, hr2, er1.mono e2, Post.bind p2 fun u h3 ρ3 H3 u' hr3 e3 r3 p3 => ?_⟩
  cases r2
  cases r3
  have r1' := (r1.mono e2).mono e3
  unfold oSl at p3
  split at p3
  · split at p3
    · exact p3.elim
    · rename_i hn
      obtain ⟨l', vs, e1, qq, rs⟩ := rdT_rel r1' rfl
      refine .inr ⟨l', vs, e1, qq, fun z => hn (by rw [← rs.length] at z; exact decide_eq_true z), fun q hq => ?_⟩
      exact new_tup hr3 (cut_rel rs l u) p3 q hq
  · split at p3
    · rename_i xs e
      obtain ⟨l', vs, e1, qq, rs⟩ := rdL_rel hr3 r1' e
      exact .inl ⟨l', vs, e1, .of qq, fun q hq => new_lst hr3 (cut_rel rs l u) p3 q hq⟩
    · exact p3.elim

/-! ### argument lists, displays -/
def aNil : MA := fun _ h => .ok [] h
def aCons (m : ME) (ms : MA) : MA := fun τ h => (m τ h).bind fun x h1 => (ms τ h1).bind fun xs h2 => .ok (x :: xs) h2
variable {es : List Expr} {ms : MA}
theorem ja_nil : JA cl W X [] aNil := pa_imp pa_nil fun σ H Q q => by
  obtain ⟨τ, ρ, h, hr, er, p⟩ := q
  exact p ρ H [] hr (.refl _ _ _) .nil
theorem ja_cons (ha : JE cl W X a ma) (hr : JA cl W X es ms) (hs : starEach (a :: es) X.env = (false, eval a X.env) :: starEach es X.env := by rfl) : JA cl W X (a :: es) (aCons ma ms) := by
  refine pa_imp (pa_cons ha hr hs) fun σ H Q q => ?_
  refine tM_bind (R1 := RD X.K cl) (f := fun τ x h1 => (ms τ h1).bind fun xs h2 => .ok (x :: xs) h2) q fun τ ρ1 h1 H1 d v hr1 er1 r1 p1 => ?_
  refine ⟨τ, ρ1, h1, hr1, er1, Post.bind p1 fun l h2 ρ2 H2 l' hr2 e2 r2 p2 => ?_⟩
  exact p2 ρ2 H2 _ hr2 (.refl _ _ _) (.cons (r1.mono e2) r2)
/-- a tuple, a list by value -/
def oTup (xs : List Dv) (h : MH) : Res Dv := if lineB xs.length = true then .ok (.tup xs) h else .stuck
def oLst (xs : List Dv) (h : MH) : Res Dv := if lineB xs.length = true then .ok (.lst xs) h else .stuck
/-- a list that will change -/
def oLstM (xs : List Dv) (h : MH) : Res Dv := if lineB xs.length = true then .ok (.obj h.length) (h ++ [.lst xs]) else .stuck
def eOps (f : List Dv → MH → Res Dv) (ms : MA) : ME := fun τ h => (ms τ h).bind f
theorem new_lstM {σ : St} {ρ : Rho} {h : MH} {H : Hp} {xs : List Dv} {vs : List V} {Q : VK} (hr : HRel X.K cl ρ h H) (rs : RelDs X.K cl ρ h H xs vs) (p : Post X.K cl (RD X.K cl) W σ ρ h H (.ok (.obj h.length) (h ++ [.lst xs])) Q) :
    ∀ q, H q = none → Q (.ref q) (upd H q (.lst vs)) := fun q hq => by
  obtain ⟨h1, h2⟩ := hr.push (H' := upd H q (.lst vs)) (c := .lst xs) hq (fun b o e => by rw [upd_ne (ne_of_none e hq)]; exact e) fun e => ⟨vs, upd_same, rs.mono e⟩
  exact p _ _ _ h1 h2 (.obj Rho.push_same)
theorem je_tup {x1} (ha : JA cl W X es ms) : JE cl W X (.Tuple es x1 pos) (eOps oTup ms) := by
  refine pe_imp (pe_tup ha) fun σ H Q q => ?_
  refine tM_bind (R1 := RDs X.K cl) (f := fun _ => oTup) q fun τ ρ1 h1 H1 d v hr1 er1 r1 p1 => ?_
  unfold oTup at p1
  split at p1
  · rename_i hl
    exact ⟨by rw [← r1.length]; exact lineB_le hl, new_tup hr1 r1 p1⟩
  · exact p1.elim
theorem je_lst (ha : JA cl W X es ms) : JE cl W X (.List es pos) (eOps oLst ms) := by
  refine pe_imp (pe_lst ha) fun σ H Q q => ?_
  refine tM_bind (R1 := RDs X.K cl) (f := fun _ => oLst) q fun τ ρ1 h1 H1 d v hr1 er1 r1 p1 => ?_
  unfold oLst at p1
  split at p1
  · rename_i hl
    exact ⟨by rw [← r1.length]; exact lineB_le hl, new_lst hr1 r1 p1⟩
  · exact p1.elim
theorem je_lstM (ha : JA cl W X es ms) : JE cl W X (.List es pos) (eOps oLstM ms) := by
  refine pe_imp (pe_lst ha) fun σ H Q q => ?_
  refine tM_bind (R1 := RDs X.K cl) (f := fun _ => oLstM) q fun τ ρ1 h1 H1 d v hr1 er1 r1 p1 => ?_
  unfold oLstM at p1
  split at p1
  · rename_i hl
    exact ⟨by rw [← r1.length]; exact lineB_le hl, new_lstM hr1 r1 p1⟩
  · exact p1.elim
end
end L2.Mi

/-! MiCalls: calls of built-ins. -/
namespace L2.Mi
open PySem PySem.Spec PyProof.Rows
theorem bt_len : bootBuiltins "len" = some (.builtin "len") := by decide +kernel
theorem bt_max : bootBuiltins "max" = some (.builtin "max") := by decide +kernel
theorem bt_min : bootBuiltins "min" = some (.builtin "min") := by decide +kernel
theorem bt_sum : bootBuiltins "sum" = some (.builtin "sum") := by decide +kernel
theorem bt_sorted : bootBuiltins "sorted" = some (.builtin "sorted") := by decide +kernel
theorem bt_all : bootBuiltins "all" = some (.builtin "all") := by decide +kernel
theorem bt_any : bootBuiltins "any" = some (.builtin "any") := by decide +kernel
theorem bt_isinstance : bootBuiltins "isinstance" = some (.builtin "isinstance") := by decide +kernel
theorem bt_list : bootBuiltins "list" = some (.type "list") := by decide +kernel
theorem bt_tuple : bootBuiltins "tuple" = some (.type "tuple") := by decide +kernel
theorem bt_int : bootBuiltins "int" = some (.type "int") := by decide +kernel
theorem bt_bool : bootBuiltins "bool" = some (.type "bool") := by decide +kernel
theorem bt_str : bootBuiltins "str" = some (.type "str") := by decide +kernel
theorem bt_dict : bootBuiltins "dict" = some (.type "dict") := by decide +kernel
theorem bt_set : bootBuiltins "set" = some (.type "set") := by decide +kernel
theorem bt_range : bootBuiltins "range" = some (.type "range") := by decide +kernel
theorem bt_ValueError : bootBuiltins "ValueError" = some (.type "ValueError") := by decide +kernel
structure CallM (X : Cx) (cl : Str → Option Addr) (fv : Value) (f : List Dv → MH → Res Dv) : Prop where
  ex : ∃ r : List V → Hp → VK → Prop, CallR X fv r ∧ ∀ (σ : St) (ρ : Rho) (h : MH) (H : Hp) (ds : List Dv) (xs : List V) (Q : VK), HRel X.K cl ρ h H → RelDs X.K cl ρ h H ds xs → Post X.K cl (RD X.K cl) NoW σ ρ h H (f ds h) Q → r xs H Q
  ne : ∀ ds h, NoErr (f ds h)
section
variable {X : Cx} {cl : Str → Option Addr} {W : WX} {pos p : Pos} {x : Str} {e : Expr} {es : List Expr} {ms : MA} {f : List Dv → MH → Res Dv}
theorem call_of {r : List V → Hp → VK → Prop} (hs : ∀ (σ : St) (ρ : Rho) (h : MH) (H : Hp) (ds : List Dv) (xs : List V) (Q : VK), HRel X.K cl ρ h H → RelDs X.K cl ρ h H ds xs → Post X.K cl (RD X.K cl) NoW σ ρ h H (f ds h) Q → r xs H Q)
    (ne : ∀ ds h, NoErr (f ds h)) {σ : St} {H : Hp} {Q : VK} (q : tM X.K cl (RD X.K cl) W (eOps f ms) σ H Q) : tM X.K cl (RDs X.K cl) W ms σ H fun vs H1 => r vs H1 Q :=
  tM_bind (R1 := RDs X.K cl) (f := fun _ => f) q fun τ ρ1 h1 H1 d v hr1 er1 r1 p1 => hs σ ρ1 h1 H1 d v Q hr1 r1 (p1.wish (ne d h1))
theorem je_callB {id : String} (hc : CallM X cl (.builtin id) f) (hg : Gl X x) (hm : X.mg x = none) (hv : bootBuiltins x = some (.builtin id)) (ha : JA cl W X (e :: es) ms) (hn : x ≠ "__name__" := by decide) (hdb : (x == ("__debug__" : Str)) = false := by decide)
    (he : starEach (e :: es) X.env = (false, eval e X.env) :: starEach es X.env := by rfl) (hpl : (backTo pos (starEach es X.env)).any (·.1) = false := by rfl) :
    JE cl W X (.Call (.Name x p) (e :: es) [] pos) (eOps f ms) := by
  obtain ⟨r, h1, h2⟩ := hc.ex
  exact pe_imp (pe_callB h1 hg hm hv ha hn hdb he hpl) fun σ H Q q => call_of h2 hc.ne q
theorem je_callTy {T : String} (hc : CallM X cl (.type T) f) (hg : Gl X x) (hm : X.mg x = none) (hv : bootBuiltins x = some (.type T)) (ha : JA cl W X (e :: es) ms) (hn : x ≠ "__name__" := by decide) (hdb : (x == ("__debug__" : Str)) = false := by decide)
    (he : starEach (e :: es) X.env = (false, eval e X.env) :: starEach es X.env := by rfl) (hpl : (backTo pos (starEach es X.env)).any (·.1) = false := by rfl) :
    JE cl W X (.Call (.Name x p) (e :: es) [] pos) (eOps f ms) := by
  obtain ⟨r, h1, h2⟩ := hc.ex
  exact pe_imp (pe_callTy h1 hg hm hv ha hn hdb he hpl) fun σ H Q q => call_of h2 hc.ne q
end
section
variable {X : Cx} {cl : Str → Option Addr}
theorem RelDs.one {K : PySem.W.Frag} {ρ : Rho} {h : MH} {H : Hp} {d : Dv} {vs : List V} (r : RelDs K cl ρ h H [d] vs) : ∃ v, vs = [v] ∧ RelD K cl ρ h H d v := by
  cases r with
  | cons r t => cases t; exact ⟨_, rfl, r⟩
theorem RelDs.two {K : PySem.W.Frag} {ρ : Rho} {h : MH} {H : Hp} {d e : Dv} {vs : List V} (r : RelDs K cl ρ h H [d, e] vs) : ∃ v w, vs = [v, w] ∧ RelD K cl ρ h H d v ∧ RelD K cl ρ h H e w := by
  cases r with
  | cons r t =>
    cases t with
    | cons r2 t => cases t; exact ⟨_, _, rfl, r, r2⟩
/-- a list, or one of the module's -/
def rdK (h : MH) : Dv → Option (List Dv)
  | .kls xs => some xs
  | d => rdL h d
theorem rdK_rel {K : PySem.W.Frag} {ρ : Rho} {h : MH} {H : Hp} (r : HRel K cl ρ h H) {d : Dv} {v : V} {xs : List Dv} (rd : RelD K cl ρ h H d v) (e : rdK h d = some xs) : ∃ a vs, v = .ref a ∧ SqL K H a vs ∧ RelDs K cl ρ h H xs vs := by
  unfold rdK at e
  split at e
  · cases e
    cases rd with
    | kls q rs => exact ⟨_, _, rfl, sqL_of q, rs⟩
  · obtain ⟨a, vs, e1, q, rs⟩ := rdL_rel r rd e
    exact ⟨a, vs, e1, .of q, rs⟩
/-- all that has items -/
def rdA (h : MH) : Dv → Option (List Dv)
  | .tup xs => some xs
  | d => rdK h d
theorem rdA_rel {K : PySem.W.Frag} {ρ : Rho} {h : MH} {H : Hp} (r : HRel K cl ρ h H) {d : Dv} {v : V} {xs : List Dv} (rd : RelD K cl ρ h H d v) (e : rdA h d = some xs) : ∃ a vs, v = .ref a ∧ (SqL K H a vs ∨ SqT K H a vs) ∧ RelDs K cl ρ h H xs vs := by
  unfold rdA at e
  split at e
  · cases e
    obtain ⟨a, vs, e1, q, rs⟩ := rdT_rel rd rfl
    exact ⟨a, vs, e1, .inr q, rs⟩
  · obtain ⟨a, vs, e1, q, rs⟩ := rdK_rel r rd e
    exact ⟨a, vs, e1, .inl q, rs⟩
/-- a function of one argument's items -/
def oItems (rd : MH → Dv → Option (List Dv)) (g : List Dv → MH → Res Dv) : List Dv → MH → Res Dv
  | [d], h => match rd h d with
    | some xs => g xs h
    | none => .stuck
  | _, _ => .stuck
theorem oItems_ne {rd : MH → Dv → Option (List Dv)} {g : List Dv → MH → Res Dv} (hg : ∀ xs h, NoErr (g xs h)) : ∀ ds h, NoErr (oItems rd g ds h) := by
  intro ds h
  unfold oItems
  split
  · split
    · exact hg _ _
    · trivial
  · trivial
theorem oItems_some {σ : St} {ρ : Rho} {h : MH} {H : Hp} {ds : List Dv} {rd : MH → Dv → Option (List Dv)} {g : List Dv → MH → Res Dv} {Q : VK} (p : Post X.K cl (RD X.K cl) NoW σ ρ h H (oItems rd g ds h) Q) :
    ∃ d xs, ds = [d] ∧ rd h d = some xs ∧ Post X.K cl (RD X.K cl) NoW σ ρ h H (g xs h) Q := by
  cases ds with
  | nil => exact p.elim
  | cons d r =>
    cases r with
    | nil =>
      cases e : rd h d with
      | none =>
        have p : Post X.K cl (RD X.K cl) NoW σ ρ h H (match rd h d with
          | some xs => g xs h
          | none => .stuck) Q := p
        rw [e] at p
        exact p.elim
      | some xs =>
        have p : Post X.K cl (RD X.K cl) NoW σ ρ h H (match rd h d with
          | some xs => g xs h
          | none => .stuck) Q := p
        rw [e] at p
        exact ⟨d, xs, rfl, e, p⟩
    | cons _ _ => exact p.elim
def gLen (xs : List Dv) (h : MH) : Res Dv := .ok (.int xs.length) h
def fLen := oItems rdA gLen
theorem call_lenM : CallM X cl (.builtin "len") fLen := by
  refine ⟨⟨_, call_len_seq, fun σ ρ h H ds vs Q hr rs p => ?_⟩, oItems_ne fun _ _ => trivial⟩
  obtain ⟨d, xs, rfl, e, p⟩ := oItems_some p
  obtain ⟨v, rfl, r⟩ := rs.one
  obtain ⟨a, us, rfl, q, ru⟩ := rdA_rel hr r e
  refine ⟨a, us, rfl, q, ?_⟩
  rw [← ru.length]
  exact p ρ H _ hr (.refl _ _ _) (.int _)
def gLst (xs : List Dv) (h : MH) : Res Dv := .ok (.lst xs) h
def gLstM (xs : List Dv) (h : MH) : Res Dv := .ok (.obj h.length) (h ++ [.lst xs])
/-- list(x) by value, as a cell -/
def fList := oItems rdA gLst
def fListM := oItems rdA gLstM
theorem call_listM : CallM X cl (.type "list") fList := by
  refine ⟨⟨_, call_list_of, fun σ ρ h H ds vs Q hr rs p => ?_⟩, oItems_ne fun _ _ => trivial⟩
  obtain ⟨d, xs, rfl, e, p⟩ := oItems_some p
  obtain ⟨v, rfl, r⟩ := rs.one
  obtain ⟨a, us, rfl, q, ru⟩ := rdA_rel hr r e
  exact ⟨a, us, rfl, q, new_lst hr ru p⟩
theorem call_listMM : CallM X cl (.type "list") fListM := by
  refine ⟨⟨_, call_list_of, fun σ ρ h H ds vs Q hr rs p => ?_⟩, oItems_ne fun _ _ => trivial⟩
  obtain ⟨d, xs, rfl, e, p⟩ := oItems_some p
  obtain ⟨v, rfl, r⟩ := rs.one
  obtain ⟨a, us, rfl, q, ru⟩ := rdA_rel hr r e
  exact ⟨a, us, rfl, q, new_lstM hr ru p⟩
def gTup (xs : List Dv) (h : MH) : Res Dv := .ok (.tup xs) h
def fTuple := oItems rdA gTup
theorem call_tupleM : CallM X cl (.type "tuple") fTuple := by
  refine ⟨⟨_, call_tuple_of, fun σ ρ h H ds vs Q hr rs p => ?_⟩, oItems_ne fun _ _ => trivial⟩
  obtain ⟨d, xs, rfl, e, p⟩ := oItems_some p
  obtain ⟨v, rfl, r⟩ := rs.one
  unfold rdA at e
  split at e
  · cases e
    have r0 := r
    obtain ⟨a, us, rfl, q, ru⟩ := rdT_rel r rfl
    exact ⟨a, us, rfl, .inr ⟨q, p ρ H _ hr (.refl _ _ _) r0⟩⟩
  · obtain ⟨a, us, rfl, q, ru⟩ := rdK_rel hr r e
    exact ⟨a, us, rfl, .inl ⟨q, new_tup hr ru p⟩⟩
/-! sums, the greatest, the least, sorted -/
def onInts (g : List Int → MH → Res Dv) (xs : List Dv) (h : MH) : Res Dv := match intsOf xs with
  | some ns => g ns h
  | none => .stuck
theorem onInts_ne {g : List Int → MH → Res Dv} (hg : ∀ ns h, NoErr (g ns h)) : ∀ xs h, NoErr (onInts g xs h) := by
  intro xs h
  unfold onInts
  split
  · exact hg _ _
  · trivial
theorem onInts_some {σ : St} {ρ : Rho} {h : MH} {H : Hp} {xs : List Dv} {vs : List V} {g : List Int → MH → Res Dv} {Q : VK} (rs : RelDs X.K cl ρ h H xs vs) (p : Post X.K cl (RD X.K cl) NoW σ ρ h H (onInts g xs h) Q) :
    ∃ ns, vs = ns.map V.int ∧ Post X.K cl (RD X.K cl) NoW σ ρ h H (g ns h) Q := by
  unfold onInts at p
  split at p
  · rename_i ns e
    obtain ⟨h1, h2⟩ := intsOf_rel rs e
    exact ⟨ns, h1, p⟩
  · exact p.elim
def maxL : List Int → Int
  | [] => 0
  | n :: ns => ns.foldl max n
def minL : List Int → Int
  | [] => 0
  | n :: ns => ns.foldl min n
theorem foldl_max_ge : ∀ (ns : List Int) (a : Int), a ≤ ns.foldl max a ∧ ∀ y ∈ ns, y ≤ ns.foldl max a
  | [], a => ⟨Int.le_refl _, fun _ h => nomatch h⟩
  | n :: ns, a => by
    obtain ⟨h1, h2⟩ := foldl_max_ge ns (max a n)
    refine ⟨Int.le_trans (Int.le_max_left a n) h1, fun y hy => ?_⟩
    rcases List.mem_cons.mp hy with rfl | hy
    · exact Int.le_trans (Int.le_max_right _ _) h1
    · exact h2 y hy
theorem foldl_max_mem : ∀ (ns : List Int) (a : Int), ns.foldl max a = a ∨ ns.foldl max a ∈ ns
  | [], a => .inl rfl
  | n :: ns, a => by
    rcases foldl_max_mem ns (max a n) with h | h
    · by_cases c : a ≤ n
      · rw [Int.max_eq_right c] at h
        right
        show ns.foldl max (max a n) ∈ _
        rw [Int.max_eq_right c, h]
        exact List.mem_cons_self
      · left
        show ns.foldl max (max a n) = a
        rw [h]
        omega
    · exact .inr (List.mem_cons_of_mem _ h)
theorem foldl_min_le : ∀ (ns : List Int) (a : Int), ns.foldl min a ≤ a ∧ ∀ y ∈ ns, ns.foldl min a ≤ y
  | [], a => ⟨Int.le_refl _, fun _ h => nomatch h⟩
  | n :: ns, a => by
    obtain ⟨h1, h2⟩ := foldl_min_le ns (min a n)
    refine ⟨Int.le_trans h1 (Int.min_le_left a n), fun y hy => ?_⟩
    rcases List.mem_cons.mp hy with rfl | hy
    · exact Int.le_trans h1 (Int.min_le_right _ _)
    · exact h2 y hy
theorem foldl_min_mem : ∀ (ns : List Int) (a : Int), ns.foldl min a = a ∨ ns.foldl min a ∈ ns
  | [], a => .inl rfl
  | n :: ns, a => by
    rcases foldl_min_mem ns (min a n) with h | h
    · by_cases c : a ≤ n
      · left
        show ns.foldl min (min a n) = a
        rw [h]
        omega
      · right
        show ns.foldl min (min a n) ∈ _
        have e : min a n = n := by omega
        rw [e] at h ⊢
        rw [h]
        exact List.mem_cons_self
    · exact .inr (List.mem_cons_of_mem _ h)
theorem maxL_spec : ∀ {ns : List Int}, ns ≠ [] → maxL ns ∈ ns ∧ ∀ y ∈ ns, y ≤ maxL ns
  | [], h => absurd rfl h
  | n :: ns, _ => by
    obtain ⟨h1, h2⟩ := foldl_max_ge ns n
    refine ⟨(foldl_max_mem ns n).elim (fun e => ?_) fun e => List.mem_cons_of_mem _ e, fun y hy => ?_⟩
    · show ns.foldl max n ∈ _
      rw [e]
      exact List.mem_cons_self
    · rcases List.mem_cons.mp hy with rfl | hy
      · exact h1
      · exact h2 y hy
theorem minL_spec : ∀ {ns : List Int}, ns ≠ [] → minL ns ∈ ns ∧ ∀ y ∈ ns, minL ns ≤ y
  | [], h => absurd rfl h
  | n :: ns, _ => by
    obtain ⟨h1, h2⟩ := foldl_min_le ns n
    refine ⟨(foldl_min_mem ns n).elim (fun e => ?_) fun e => List.mem_cons_of_mem _ e, fun y hy => ?_⟩
    · show ns.foldl min n ∈ _
      rw [e]
      exact List.mem_cons_self
    · rcases List.mem_cons.mp hy with rfl | hy
      · exact h1
      · exact h2 y hy
def gSum (ns : List Int) (h : MH) : Res Dv := .ok (.int ns.sum) h
def gMax (ns : List Int) (h : MH) : Res Dv := if ns.isEmpty = true then .stuck else .ok (.int (maxL ns)) h
def gMin (ns : List Int) (h : MH) : Res Dv := if ns.isEmpty = true then .stuck else .ok (.int (minL ns)) h
def fSum := oItems rdK (onInts gSum)
theorem call_sumM (hc : X.calm = true) : CallM X cl (.builtin "sum") fSum := by
  refine ⟨⟨_, cr_sum hc, fun σ ρ h H ds vs Q hr rs p => ?_⟩, oItems_ne (onInts_ne fun _ _ => trivial)⟩
  obtain ⟨d, xs, rfl, e, p⟩ := oItems_some p
  obtain ⟨v, rfl, r⟩ := rs.one
  obtain ⟨a, us, rfl, q, ru⟩ := rdK_rel hr r e
  obtain ⟨ns, rfl, p⟩ := onInts_some ru p
  exact ⟨a, ns, rfl, q, p ρ H _ hr (.refl _ _ _) (.int _)⟩
/-- max(xs) of a list; max(i, j) -/
def fMax : List Dv → MH → Res Dv
  | [.int i, .int j], h => .ok (.int (max i j)) h
  | ds, h => oItems rdK (onInts gMax) ds h
def fMin : List Dv → MH → Res Dv
  | [.int i, .int j], h => .ok (.int (min i j)) h
  | ds, h => oItems rdK (onInts gMin) ds h
theorem call_maxM (hc : X.calm = true) : CallM X cl (.builtin "max") fMax := by
  refine ⟨⟨_, (cr_max hc).or (call_max2 hc), fun σ ρ h H ds vs Q hr rs p => ?_⟩, fun ds h => ?_⟩
  · unfold fMax at p
    split at p
    · rename_i h' i j
      obtain ⟨v, w, rfl, r1, r2⟩ := rs.two
      cases r1
      cases r2
      right
      refine ⟨i, j, rfl, ?_⟩
      have e : (if j > i then j else i) = max i j := by split <;> omega
      rw [e]
      exact p ρ H _ hr (.refl _ _ _) (.int _)
    · obtain ⟨d, xs, rfl, e, p⟩ := oItems_some p
      obtain ⟨v, rfl, r⟩ := rs.one
      obtain ⟨a, us, rfl, q, ru⟩ := rdK_rel hr r e
      obtain ⟨ns, rfl, p⟩ := onInts_some ru p
      unfold gMax at p
      split at p
      · exact p.elim
      · rename_i hn
        have hne : ns ≠ [] := fun z => hn (by rw [z]; rfl)
        obtain ⟨s1, s2⟩ := maxL_spec hne
        refine .inl ⟨a, ns, rfl, q, by cases ns with | nil => exact absurd rfl hne | cons _ _ => simp, fun m hm hge => ?_⟩
        have em : m = maxL ns := Int.le_antisymm (s2 m hm) (hge _ s1)
        rw [em]
        exact p ρ H _ hr (.refl _ _ _) (.int _)
  · unfold fMax
    split
    · trivial
    · refine oItems_ne (onInts_ne fun ns h => ?_) _ _
      unfold gMax
      split <;> trivial
theorem call_minM (hc : X.calm = true) : CallM X cl (.builtin "min") fMin := by
  refine ⟨⟨_, (cr_min hc).or (call_min2 hc), fun σ ρ h H ds vs Q hr rs p => ?_⟩, fun ds h => ?_⟩
  · unfold fMin at p
    split at p
    · rename_i h' i j
      obtain ⟨v, w, rfl, r1, r2⟩ := rs.two
      cases r1
      cases r2
      right
      refine ⟨i, j, rfl, ?_⟩
      have e : (if j < i then j else i) = min i j := by split <;> omega
      rw [e]
      exact p ρ H _ hr (.refl _ _ _) (.int _)
    · obtain ⟨d, xs, rfl, e, p⟩ := oItems_some p
      obtain ⟨v, rfl, r⟩ := rs.one
      obtain ⟨a, us, rfl, q, ru⟩ := rdK_rel hr r e
      obtain ⟨ns, rfl, p⟩ := onInts_some ru p
      unfold gMin at p
      split at p
      · exact p.elim
      · rename_i hn
        have hne : ns ≠ [] := fun z => hn (by rw [z]; rfl)
        obtain ⟨s1, s2⟩ := minL_spec hne
        refine .inl ⟨a, ns, rfl, q, by cases ns with | nil => exact absurd rfl hne | cons _ _ => simp, fun m hm hge => ?_⟩
        have em : m = minL ns := Int.le_antisymm (hge _ s1) (s2 m hm)
        rw [em]
        exact p ρ H _ hr (.refl _ _ _) (.int _)
  · unfold fMin
    split
    · trivial
    · refine oItems_ne (onInts_ne fun ns h => ?_) _ _
      unfold gMin
      split <;> trivial
/-- rising -/
def sortI (ns : List Int) : List Int := ns.mergeSort fun a b => decide (a ≤ b)
theorem sortI_perm (ns : List Int) : (sortI ns).Perm ns := List.mergeSort_perm ns _
theorem sortI_le (ns : List Int) : (sortI ns).Pairwise (· ≤ ·) := by
  have h := List.pairwise_mergeSort (le := fun a b : Int => decide (a ≤ b)) (fun a b c h1 h2 => by simp only [decide_eq_true_eq] at *; omega) (fun a b => by simp only [Bool.or_eq_true, decide_eq_true_eq]; omega) ns
  exact h.imp fun h => by simpa using h
theorem sortI_one {ns ms : List Int} (p : ms.Perm ns) (s : ms.Pairwise (· ≤ ·)) : ms = sortI ns :=
  List.Perm.eq_of_pairwise (fun a b _ _ h1 h2 => Int.le_antisymm h1 h2) s (sortI_le ns) (p.trans (sortI_perm ns).symm)
def gSorted (ns : List Int) (h : MH) : Res Dv := if (decide (ns.length < 64)) = true then .ok (.lst ((sortI ns).map Dv.int)) h else .stuck
def fSorted := oItems rdK (onInts gSorted)
theorem call_sortedM : CallM X cl (.builtin "sorted") fSorted := by
  refine ⟨⟨_, cr_sorted, fun σ ρ h H ds vs Q hr rs p => ?_⟩, oItems_ne (onInts_ne fun ns h => ?_)⟩
  · obtain ⟨d, xs, rfl, e, p⟩ := oItems_some p
    obtain ⟨v, rfl, r⟩ := rs.one
    obtain ⟨a, us, rfl, q, ru⟩ := rdK_rel hr r e
    obtain ⟨ns, rfl, p⟩ := onInts_some ru p
    unfold gSorted at p
    split at p
    · rename_i hl
      refine ⟨a, ns, rfl, q, of_decide_eq_true hl, fun ns' q' pe so hq => ?_⟩
      rw [sortI_one pe so]
      exact new_lst hr (RelDs.ints _) p q' hq
    · exact p.elim
  · unfold gSorted
    split <;> trivial
def onBls (g : List Bool → MH → Res Dv) (xs : List Dv) (h : MH) : Res Dv := match blsOf xs with
  | some ns => g ns h
  | none => .stuck
def fAll := oItems rdK (onBls fun bs h => .ok (.bl (bs.all id)) h)
def fAny := oItems rdK (onBls fun bs h => .ok (.bl (bs.any id)) h)
theorem onBls_ne {g : List Bool → MH → Res Dv} (hg : ∀ ns h, NoErr (g ns h)) : ∀ xs h, NoErr (onBls g xs h) := by
  intro xs h
  unfold onBls
  split
  · exact hg _ _
  · trivial
theorem call_allM (hc : X.calm = true) : CallM X cl (.builtin "all") fAll := by
  refine ⟨⟨_, cr_all hc, fun σ ρ h H ds vs Q hr rs p => ?_⟩, oItems_ne (onBls_ne fun _ _ => trivial)⟩
  obtain ⟨d, xs, rfl, e, p⟩ := oItems_some p
  obtain ⟨v, rfl, r⟩ := rs.one
  obtain ⟨a, us, rfl, q, ru⟩ := rdK_rel hr r e
  unfold onBls at p
  split at p
  · rename_i bs eb
    obtain ⟨h1, h2⟩ := blsOf_rel ru eb
    subst h1
    exact ⟨a, bs, rfl, q, p ρ H _ hr (.refl _ _ _) (.bl _)⟩
  · exact p.elim
theorem call_anyM (hc : X.calm = true) : CallM X cl (.builtin "any") fAny := by
  refine ⟨⟨_, cr_any hc, fun σ ρ h H ds vs Q hr rs p => ?_⟩, oItems_ne (onBls_ne fun _ _ => trivial)⟩
  obtain ⟨d, xs, rfl, e, p⟩ := oItems_some p
  obtain ⟨v, rfl, r⟩ := rs.one
  obtain ⟨a, us, rfl, q, ru⟩ := rdK_rel hr r e
  unfold onBls at p
  split at p
  · rename_i bs eb
    obtain ⟨h1, h2⟩ := blsOf_rel ru eb
    subst h1
    exact ⟨a, bs, rfl, q, p ρ H _ hr (.refl _ _ _) (.bl _)⟩
  · exact p.elim
end
end L2.Mi

/-! MiStm: statements, targets, loops, list comprehensions. -/
namespace L2.Mi
open PySem PySem.Spec PyProof.Rows
open Classical in
/-- does the cell still hold these items? -/
noncomputable def cellIs (h : MH) (i : Nat) (xs : List Dv) : Bool := decide (h[i]? = some (.lst xs))
open Classical in
theorem cellIs_iff {h : MH} {i : Nat} {xs : List Dv} : cellIs h i xs = true ↔ h[i]? = some (.lst xs) := by
  unfold cellIs
  exact decide_eq_true_iff

def Res.toS {α : Type} (r : Res α) (τ : MEnv) (k : α → MH → RS) : RS := match r with
  | .ok a h => k a h
  | .err c xs h => .err c xs τ h
  | .stuck => .stuck
@[simp] theorem Res.toS_ok {α : Type} (a : α) (h : MH) (τ : MEnv) (k : α → MH → RS) : (Res.ok a h).toS τ k = k a h := rfl
@[simp] theorem Res.toS_err {α : Type} (c : Str) (xs : List Dv) (h : MH) (τ : MEnv) (k : α → MH → RS) : (Res.err c xs h : Res α).toS τ k = .err c xs τ h := rfl
@[simp] theorem Res.toS_stuck {α : Type} (τ : MEnv) (k : α → MH → RS) : (Res.stuck : Res α).toS τ k = .stuck := rfl
theorem PostS.bind {α β : Type} {K : PySem.W.Frag} {cl : Str → Option Addr} {R1 : Rho → MH → Hp → α → β → Prop} {W : WX} {D : Ends} {σ : St} {τ : MEnv} {ρ : Rho} {h : MH} {H : Hp} {r : Res α} {k : α → MH → RS} {Q1 : β → Hp → Prop}
    (er : EnvR K cl ρ h H τ σ) (p : PostS K cl W D ρ h H (r.toS τ k))
    (kk : ∀ a h1 ρ1 H1 b, HRel K cl ρ1 h1 H1 → Ext ρ h H ρ1 h1 H1 → R1 ρ1 h1 H1 a b → PostS K cl W D ρ1 h1 H1 (k a h1) → Q1 b H1) : Post K cl R1 W σ ρ h H r Q1 := by
  cases r with
  | ok a h1 => exact fun ρ1 H1 b hr1 e1 rl => kk a h1 ρ1 H1 b hr1 e1 rl (PostS.later (r := k a h1) p e1)
  | err c xs h1 => exact fun ρ' H' cv dd hr e x => p ρ' H' σ cv dd hr e (er.mono e) x
  | stuck => exact p
theorem tS_bind {α β : Type} {K : PySem.W.Frag} {cl : Str → Option Addr} {R1 : Rho → MH → Hp → α → β → Prop} {W : WX} {D : Ends} {σ : St} {H : Hp} {m : MEnv → MH → Res α} {k : MEnv → α → MH → RS} {Q1 : β → Hp → Prop}
    (q : tS K cl W (fun τ h => (m τ h).toS τ (k τ)) D σ H)
    (kk : ∀ τ ρ1 h1 H1 a b, HRel K cl ρ1 h1 H1 → EnvR K cl ρ1 h1 H1 τ σ → R1 ρ1 h1 H1 a b → PostS K cl W D ρ1 h1 H1 (k τ a h1) → Q1 b H1) : tM K cl R1 W m σ H Q1 := by
  obtain ⟨τ, ρ, h, hr, er, p⟩ := q
  exact ⟨τ, ρ, h, hr, er, PostS.bind er p fun a h1 ρ1 H1 b hr1 e1 rl p1 => kk τ ρ1 h1 H1 a b hr1 (er.mono e1) rl p1⟩
/-! ### blocks -/
def sNil : MS := fun τ h => .nx τ h
def sSeq (a b : MS) : MS := fun τ h => match a τ h with
  | .nx τ1 h1 => b τ1 h1
  | r => r
def sSet (i : Nat) (m : ME) : MS := fun τ h => (m τ h).toS τ fun d h1 => .nx (τ.set i (some d)) h1
def sExpr (m : ME) : MS := fun τ h => (m τ h).toS τ fun _ h1 => .nx τ h1
def sRet (m : ME) : MS := fun τ h => (m τ h).toS τ fun d h1 => .rt d h1
def sRetN : MS := fun _ h => .rt .non h
/-- a list or dict that goes out is data from then on -/
def frzD (d : Dv) (h : MH) : Dv × MH := match d with
  | .obj i => match h[i]? with
    | some (.lst xs) => (.lst xs, h.set i .dead)
    | some (.dct xs) => (.dct xs, h.set i .dead)
    | _ => (.obj i, h)
  | d => (d, h)
def sRetF (m : ME) : MS := fun τ h => (m τ h).toS τ fun d h1 => .rt (frzD d h1).1 (frzD d h1).2
def sIf (c : MT) (a b : MS) : MS := fun τ h => (c τ h).toS τ fun k h1 => if k = true then a τ h1 else b τ h1
section
variable {X : Cx} {cl : Str → Option Addr} {W : WX} {pos : Pos} {e : Expr} {m : ME} {st : Stmt} {rest sa sb : List Stmt} {a b : MS} {c : MT}
theorem jss_nil : JSs cl W X [] sNil := pss_imp pss_nil fun D σ H q => by
  obtain ⟨τ, ρ, h, hr, er, p⟩ := q
  exact p ρ H σ hr (.refl _ _ _) er
theorem seq_of {D : Ends} {σ : St} {H : Hp} (q : tS X.K cl W (sSeq a b) D σ H) : tS X.K cl W a { D with nx := tS X.K cl W b D } σ H := by
  obtain ⟨τ, ρ, h, hr, er, p⟩ := q
  refine ⟨τ, ρ, h, hr, er, ?_⟩
  have p' : PostS X.K cl W D ρ h H (match a τ h with
    | .nx τ1 h1 => b τ1 h1
    | r => r) := p
  cases ha : a τ h with
  | nx τ1 h1 =>
    rw [ha] at p'
    exact fun ρ' H' σ' hr' e' er' => ⟨τ1, ρ', h1, hr', er', p'.later e'⟩
  | rt d h1 => rw [ha] at p'; exact p'
  | bk τ1 h1 => rw [ha] at p'; exact p'
  | ct τ1 h1 => rw [ha] at p'; exact p'
  | err c xs τ1 h1 => rw [ha] at p'; exact p'
  | stuck => rw [ha] at p'; exact p'
theorem jss_cons (h1 : JS cl W X st a) (h2 : JSs cl W X rest b) : JSs cl W X (st :: rest) (sSeq a b) := pss_imp (pss_cons h1 h2) fun D σ H q => seq_of q
theorem jss_one (h1 : JS cl W X st a) : JSs cl W X [st] a := pss_one h1
theorem js_pass : JS cl W X (.Pass pos) sNil := ps_imp ps_pass fun D σ H q => by
  obtain ⟨τ, ρ, h, hr, er, p⟩ := q
  exact p ρ H σ hr (.refl _ _ _) er
theorem js_set {i : Nat} {x : Str} {pos' : Pos} (hN : X.N.Nodup) (hi : X.N[i]? = some x) (hx : Loc X.env.scope x) (he : JE cl W X e m) (hs : swapsWith e (some (.Name x pos')) pos.line X.env = pure false := by rfl) (hf : X.fn x = true ∨ X.env.scope.names.lookup x = some .local := by first | exact .inl rfl | exact .inr rfl | assumption) :
    JS cl W X (.Assign [.Name x pos'] e pos) (sSet i m) := by
  refine ps_imp (ps_set hN hi hx he hs hf) fun D σ H q => ?_
  exact tS_bind (R1 := RD X.K cl) (k := fun τ d h1 => .nx (τ.set i (some d)) h1) q fun τ ρ1 h1 H1 d v hr1 er1 r1 p1 => p1 ρ1 H1 _ hr1 (.refl _ _ _) (er1.set i r1)
theorem js_expr (he : JE cl W X e m) (hs : swapsWith e none pos.line X.env = pure false := by rfl) : JS cl W X (.Expr e pos) (sExpr m) := by
  refine ps_imp (ps_expr he hs) fun D σ H q => ?_
  exact tS_bind (R1 := RD X.K cl) (k := fun τ _ h1 => .nx τ h1) q fun τ ρ1 h1 H1 d v hr1 er1 r1 p1 => p1 ρ1 H1 _ hr1 (.refl _ _ _) er1
theorem js_ret (he : JE cl W X e m) : JS cl W X (.Return (some e) pos) (sRet m) := by
  refine ps_imp (ps_ret he) fun D σ H q => ?_
  exact tS_bind (R1 := RD X.K cl) (k := fun _ d h1 => .rt d h1) q fun τ ρ1 h1 H1 d v hr1 er1 r1 p1 => p1 ρ1 H1 _ hr1 (.refl _ _ _) r1
theorem js_retN : JS cl W X (.Return none pos) sRetN := ps_imp ps_retN fun D σ H q => by
  obtain ⟨τ, ρ, h, hr, er, p⟩ := q
  exact p ρ H .non hr (.refl _ _ _) .non
theorem frz_rel {K : PySem.W.Frag} {ρ : Rho} {h : MH} {H : Hp} {d : Dv} {v : V} (hr : HRel K cl ρ h H) (r : RelD K cl ρ h H d v) :
    HRel K cl ρ (frzD d h).2 H ∧ Ext ρ h H ρ (frzD d h).2 H ∧ RelD K cl ρ (frzD d h).2 H (frzD d h).1 v := by
  have same : HRel K cl ρ h H ∧ Ext ρ h H ρ h H ∧ RelD K cl ρ h H d v := ⟨hr, .refl _ _ _, r⟩
  cases d with
  | obj i =>
    cases hi : h[i]? with
    | none =>
      have e : frzD (.obj i) h = (.obj i, h) := by unfold frzD; simp only [hi]
      rw [e]; exact same
    | some c =>
      cases r with
      | @obj _ a q =>
        obtain ⟨b, hb, cr⟩ := hr.cells i c hi
        rw [q] at hb; cases hb
        obtain ⟨h1, e1⟩ := hr.forget i
        cases c with
        | lst xs =>
          have e : frzD (.obj i) h = (.lst xs, h.set i .dead) := by unfold frzD; simp only [hi]
          rw [e]
          obtain ⟨vs, ev, rs⟩ := cr
          exact ⟨h1, e1, .lst ev (forget_not_live hr hi rfl q) (rs.mono e1)⟩
        | dct ds =>
          have e : frzD (.obj i) h = (.dct ds, h.set i .dead) := by unfold frzD; simp only [hi]
          rw [e]
          obtain ⟨ks, vs, cr⟩ := cr
          rcases cr with ⟨rfl, kvs, ev, ek, rs⟩ | ⟨rfl, kvs, ev, ek, rs⟩
          · exact ⟨h1, e1, .dctK (.inl ev) (forget_not_live hr hi rfl q) ek (rs.mono e1)⟩
          · exact ⟨h1, e1, .dctT (.inl ev) (forget_not_live hr hi rfl q) ek (rs.mono e1)⟩
        | dead =>
          have e : frzD (.obj i) h = (.obj i, h) := by unfold frzD; simp only [hi]
          rw [e]; exact same
        | ins C fs =>
          have e : frzD (.obj i) h = (.obj i, h) := by unfold frzD; simp only [hi]
          rw [e]; exact same
  | _ => exact same
theorem js_retF (he : JE cl W X e m) : JS cl W X (.Return (some e) pos) (sRetF m) := by
  refine ps_imp (ps_ret he) fun D σ H q => ?_
  refine tS_bind (R1 := RD X.K cl) (k := fun _ d h1 => .rt (frzD d h1).1 (frzD d h1).2) q fun τ ρ1 h1 H1 d v hr1 er1 r1 p1 => ?_
  obtain ⟨a1, a2, a3⟩ := frz_rel hr1 r1
  exact p1 ρ1 H1 _ a1 a2 a3
theorem js_if {ce : Expr} (hc : JT cl W X ce c) (ha : JSs cl W X sa a) (hb : JSs cl W X sb b) : JS cl W X (.If ce sa sb pos) (sIf c a b) := by
  refine ps_imp (ps_if hc ha hb) fun D σ H q => ?_
  refine tS_bind (R1 := RB) (k := fun τ k h1 => if k = true then a τ h1 else b τ h1) q fun τ ρ1 h1 H1 d v hr1 er1 r1 p1 => ?_
  cases r1
  cases d with
  | true => exact iteT ⟨τ, ρ1, h1, hr1, er1, p1⟩
  | false => exact iteF ⟨τ, ρ1, h1, hr1, er1, p1⟩
end

/-! ### targets -/
abbrev MG := Dv → MEnv → Option MEnv
abbrev MGs := List Dv → MEnv → Option MEnv
def mgName (i : Nat) : MG := fun d τ => some (τ.set i (some d))
def mgNil : MGs := fun ds τ => match ds with
  | [] => some τ
  | _ => none
def mgCons (g : MG) (gs : MGs) : MGs := fun ds τ => match ds with
  | d :: ds => (g d τ).bind fun τ1 => gs ds τ1
  | [] => none
def rdTL : Dv → Option (List Dv)
  | .tup xs => some xs
  | .lst xs => some xs
  | _ => none
def mgTup (n : Nat) (gs : MGs) : MG := fun d τ => (rdTL d).bind fun xs => if xs.length = n then gs xs τ else none
/-- the transformer of a target: only the slots of sl change -/
def tG (K : PySem.W.Frag) (cl : Str → Option Addr) (sl : List Nat) (g : MG) : TG := fun v σ H Q => ∃ τ ρ h d τ', HRel K cl ρ h H ∧ EnvR K cl ρ h H τ σ ∧ RelD K cl ρ h H d v ∧ g d τ = some τ' ∧
  ∀ σ', EnvR K cl ρ h H τ' σ' → σ'.length = σ.length → (∀ i, i ∉ sl → σ'[i]? = σ[i]?) → Q σ' H
def tGs (K : PySem.W.Frag) (cl : Str → Option Addr) (sl : List Nat) (g : MGs) : TGs := fun vs σ H Q => ∃ τ ρ h ds τ', HRel K cl ρ h H ∧ EnvR K cl ρ h H τ σ ∧ RelDs K cl ρ h H ds vs ∧ g ds τ = some τ' ∧
  ∀ σ', EnvR K cl ρ h H τ' σ' → σ'.length = σ.length → (∀ i, i ∉ sl → σ'[i]? = σ[i]?) → Q σ' H
abbrev JG (cl : Str → Option Addr) (X : Cx) (e : Expr) (sl : List Nat) (g : MG) : Prop := PG X e (tG X.K cl sl g)
abbrev JGs (cl : Str → Option Addr) (X : Cx) (e : List Expr) (sl : List Nat) (g : MGs) : Prop := PGs X e (tGs X.K cl sl g)
theorem pg_imp {X : Cx} {e : Expr} {t t' : TG} (h : PG X e t) (i : ∀ v σ H Q, t' v σ H Q → t v σ H Q) : PG X e t' := ⟨fun pins s σ H v u Q I r q => h.run pins s σ H v u Q I r (i _ _ _ _ q)⟩
theorem pgs_imp {X : Cx} {e : List Expr} {t t' : TGs} (h : PGs X e t) (i : ∀ v σ H Q, t' v σ H Q → t v σ H Q) : PGs X e t' := ⟨fun pins s σ H v u Q I r q => h.run pins s σ H v u Q I r (i _ _ _ _ q)⟩
theorem pg_or {X : Cx} {e : Expr} {t t' : TG} (h : PG X e t) (h' : PG X e t') : PG X e (fun v σ H Q => t v σ H Q ∨ t' v σ H Q) := ⟨fun pins s σ H v u Q I r q => q.elim (h.run pins s σ H v u Q I r) (h'.run pins s σ H v u Q I r)⟩
section
variable {X : Cx} {cl : Str → Option Addr} {W : WX} {pos : Pos}
theorem jg_name {i : Nat} {x : Str} (hN : X.N.Nodup) (hi : X.N[i]? = some x) (hx : Loc X.env.scope x) (hf : X.fn x = true ∨ X.env.scope.names.lookup x = some .local := by first | exact .inl rfl | exact .inr rfl | assumption) : JG cl X (.Name x pos) [i] (mgName i) := by
  refine pg_imp (pg_name hN hi hx hf) fun v σ H Q q => ?_
  obtain ⟨τ, ρ, h, d, τ', hr, er, rd, e, k⟩ := q
  cases e
  refine k _ (er.set i rd) (List.length_set ..) fun j hj => ?_
  rw [List.getElem?_set_ne (by simpa using fun z => hj (by simp [z]))]
theorem jgs_nil : JGs cl X [] [] mgNil := by
  refine pgs_imp pgs_nil fun v σ H Q q => ?_
  obtain ⟨τ, ρ, h, d, τ', hr, er, rd, e, k⟩ := q
  cases rd with
  | nil => cases e; exact ⟨rfl, k σ er rfl fun _ _ => rfl⟩
  | cons _ _ => cases e
theorem jgs_cons {e : Expr} {es : List Expr} {s1 s2 : List Nat} {g : MG} {gs : MGs} (h1 : JG cl X e s1 g) (h2 : JGs cl X es s2 gs) (hs : (assignEach (e :: es) X.env).map (·.2) = assign e X.env :: (assignEach es X.env).map (·.2) := by rfl) :
    JGs cl X (e :: es) (s1 ++ s2) (mgCons g gs) := by
  refine pgs_imp (pgs_cons h1 h2 hs) fun v σ H Q q => ?_
  obtain ⟨τ, ρ, h, d, τ', hr, er, rd, e, k⟩ := q
  cases rd with
  | nil => cases e
  | @cons x u xs us r rs =>
    have e : (g x τ).bind (fun τ1 => gs xs τ1) = some τ' := e
    cases e1 : g x τ with
    | none => rw [e1] at e; cases e
    | some τ1 =>
      rw [e1] at e
      refine ⟨u, us, rfl, τ, ρ, h, x, τ1, hr, er, r, e1, fun σ1 er1 l1 k1 => ?_⟩
      refine ⟨τ1, ρ, h, xs, τ', hr, er1, rs, e, fun σ2 er2 l2 k2 => k σ2 er2 (l2.trans l1) fun i hi => ?_⟩
      rw [List.mem_append, not_or] at hi
      exact (k2 i hi.2).trans (k1 i hi.1)
theorem jg_tup {es : List Expr} {kk n : Nat} {sl : List Nat} {gs : MGs} (hc : X.calm = true) (h : JGs cl X es sl gs) (hn : (assignEach es X.env).length = n := by rfl) (hst : (assignEach es X.env).findIdx? (·.1) = none := by rfl) :
    JG cl X (.Tuple es kk pos) sl (mgTup n gs) := by
  refine pg_imp (pg_or (pg_tup hc h hn hst) (pg_lst hc h hn hst)) fun v σ H Q q => ?_
  obtain ⟨τ, ρ, h, d, τ', hr, er, rd, e, k⟩ := q
  have e : (rdTL d).bind (fun xs => if xs.length = n then gs xs τ else none) = some τ' := e
  cases rd with
  | @tup a xs vs q rs =>
    have e : (if xs.length = n then gs xs τ else none) = some τ' := e
    split at e
    · rename_i hl
      exact .inl ⟨a, vs, rfl, sqT_of q, by rw [← rs.length]; exact hl, τ, ρ, h, xs, τ', hr, er, rs, e, k⟩
    · cases e
  | @lst a xs vs q nl rs =>
    have e : (if xs.length = n then gs xs τ else none) = some τ' := e
    split at e
    · rename_i hl
      exact .inr ⟨a, vs, rfl, .of q, by rw [← rs.length]; exact hl, τ, ρ, h, xs, τ', hr, er, rs, e, k⟩
    · cases e
  | _ => cases e
def sAsg (m : ME) (g : MG) : MS := fun τ h => (m τ h).toS τ fun d h1 => match g d τ with
  | some τ1 => .nx τ1 h1
  | none => .stuck
theorem js_asg {tg e : Expr} {m : ME} {sl : List Nat} {g : MG} (he : JE cl W X e m) (hg : JG cl X tg sl g) (hs : swapsWithSole [tg] e pos.line X.env = pure false := by rfl) (hw : swappedStores [tg] e X.env = pure none := by rfl)
    (h1 : (assignEach [tg] X.env).map (·.2) = [assign tg X.env] := by rfl) : JS cl W X (.Assign [tg] e pos) (sAsg m g) := by
  refine ps_imp (ps_asg he hg hs hw h1) fun D σ H q => ?_
  refine tS_bind (R1 := RD X.K cl) (k := fun τ d h1 => match g d τ with
    | some τ1 => .nx τ1 h1
    | none => .stuck) q fun τ ρ1 h1 H1 d v hr1 er1 r1 p1 => ?_
  cases eg : g d τ with
  | none => simp only [eg] at p1; exact p1.elim
  | some τ1 =>
    simp only [eg] at p1
    exact ⟨τ, ρ1, h1, d, τ1, hr1, er1, r1, eg, fun σ' er' _ _ => p1 ρ1 H1 σ' hr1 (.refl _ _ _) er'⟩
/-- a, b = e1, e2: the names are stored at once -/
def sPar (i j : Nat) (ms : MA) : MS := fun τ h => (ms τ h).toS τ fun ds h1 => match ds with
  | [d, e] => .nx ((τ.set i (some d)).set j (some e)) h1
  | _ => .stuck
theorem js_par {i j : Nat} {x y : Str} {a b : Expr} {ms : MA} {px py pt : Pos} {kt k2 pt2} (hc : X.calm = true) (hN : X.N.Nodup) (hi : X.N[i]? = some x) (hj : X.N[j]? = some y) (hij : i ≠ j)
    (hx : X.env.scope.names.lookup x = some .local) (hy : X.env.scope.names.lookup y = some .local) (ha : JA cl W X [a, b] ms)
    (hw : swappedStores [.Tuple [.Name x px, .Name y py] kt pt] (.Tuple [a, b] k2 pt2) X.env = pure (some [x, y]))
    (hs : swapsWithSole [.Tuple [.Name x px, .Name y py] kt pt] (.Tuple [a, b] k2 pt2) pos.line X.env = pure false := by rfl) :
    JS cl W X (.Assign [.Tuple [.Name x px, .Name y py] kt pt] (.Tuple [a, b] k2 pt2) pos) (sPar i j ms) := by
  refine ps_imp (ps_par hc hN hi hj hij hx hy ha hw hs) fun D σ H q => ?_
  refine tS_bind (R1 := RDs X.K cl) (k := fun τ ds h1 => match ds with
    | [d, e] => .nx ((τ.set i (some d)).set j (some e)) h1
    | _ => .stuck) q fun τ ρ1 h1 H1 d v hr1 er1 r1 p1 => ?_
  split at p1
  · obtain ⟨v, w, rfl, q1, q2⟩ := r1.two
    exact ⟨v, w, rfl, p1 ρ1 H1 _ hr1 (.refl _ _ _) ((er1.set i q1).set j q2)⟩
  · exact p1.elim
/-- name op= e, of ints -/
def sAug (i : Nat) (f : Dv → Dv → MH → Res Dv) (m : ME) : MS := fun τ h => match τ[i]? with
  | some (some x) => (m τ h).toS τ fun y h1 => (f x y h1).toS τ fun z h2 => .nx (τ.set i (some z)) h2
  | _ => .stuck
theorem js_aug {i : Nat} {x : Str} {e : Expr} {m : ME} {op : Operator} {f : Dv → Dv → MH → Res Dv} {pos' : Pos} (hN : X.N.Nodup) (hi : X.N[i]? = some x) (hx : Loc X.env.scope x) (he : JE cl W X e m) (o : Op2 X cl (inplaceOp op) f) (hf : X.fn x = true ∨ X.env.scope.names.lookup x = some .local := by first | exact .inl rfl | exact .inr rfl | assumption) :
    JS cl W X (.AugAssign (.Name x pos') op e pos) (sAug i f m) := by
  obtain ⟨r, h1, h2⟩ := o.ex
  refine ps_imp (ps_aug hN hi hx he h1 hf) fun D σ H q => ?_
  obtain ⟨τ, ρ, h, hr, er, p⟩ := q
  unfold sAug at p
  cases et : τ[i]? with
  | none => simp only [et] at p; exact p.elim
  | some od =>
    cases od with
    | none => simp only [et] at p; exact p.elim
    | some d =>
      simp only [et] at p
      obtain ⟨v, ev, rv⟩ := er.2 i d et
      refine ⟨v, ev, τ, ρ, h, hr, er, PostS.bind er p fun y h1' ρ1 H1 u hr1 e1 r1 p1 => ?_⟩
      have n := o.ne d y h1'
      refine h2 σ ρ1 h1' H1 d y v u _ hr1 (rv.mono e1) r1 (Post.wish (W := W) (σ := σ) (PostS.bind (er.mono e1) p1 fun z h2' ρ2 H2 w hr2 e2 r2 p2 => ?_) n)
      exact p2 ρ2 H2 _ hr2 (.refl _ _ _) (((er.mono e1).mono e2).set i r2)
end
theorem op2_iadd {X : Cx} {cl : Str → Option Addr} : Op2 X cl (inplaceOp .Add) (oII (fun _ _ => true) fun i j => .int (i + j)) := op_of_I0 iop_add fun _ _ _ _ _ _ => .int _
theorem op2_isub {X : Cx} {cl : Str → Option Addr} : Op2 X cl (inplaceOp .Sub) (oII (fun _ _ => true) fun i j => .int (i - j)) := op_of_I0 iop_sub fun _ _ _ _ _ _ => .int _
end L2.Mi

/-! MiLoop: what is walked; for, while, list comprehensions. -/
namespace L2.Mi
open PySem PySem.Spec PyProof.Rows
/-- what must stay while a walk goes on: nothing, or a cell's items -/
inductive Gd where
  | free
  | cell (i : Nat)
noncomputable def Gd.ok (g : Gd) (ds : List Dv) (h : MH) : Bool := match g with
  | .free => true
  | .cell i => cellIs h i ds
structure ItOk (K : PySem.W.Frag) (cl : Str → Option Addr) (ρ₀ : Rho) (h₀ : MH) (H₀ : Hp) (ds : List Dv) (g : Gd) (J : It) : Prop where
  go : ∀ ρ h H i, HRel K cl ρ h H → Ext1 ρ₀ h₀ H₀ ρ h H → g.ok ds h = true → i < ds.length → J.go i H
  stop : ∀ ρ h H, HRel K cl ρ h H → Ext1 ρ₀ h₀ H₀ ρ h H → g.ok ds h = true → J.stop ds.length H
  yld : ∀ ρ h H i d x H', HRel K cl ρ h H → Ext1 ρ₀ h₀ H₀ ρ h H → g.ok ds h = true → ds[i]? = some d → J.yld i H x H' → HRel K cl ρ h H' ∧ Ext ρ h H ρ h H' ∧ RelD K cl ρ h H' d x
abbrev RI (K : PySem.W.Frag) (cl : Str → Option Addr) : Rho → MH → Hp → List Dv × Gd → It → Prop := fun ρ h H p J => ItOk K cl ρ h H p.1 p.2 J
abbrev MI := MEnv → MH → Res (List Dv × Gd)
abbrev JI (cl : Str → Option Addr) (W : WX) (X : Cx) (tg e : Expr) (m : MI) : Prop := PI X tg e (tM X.K cl (RI X.K cl) W m)
theorem pi_imp {X : Cx} {tg e : Expr} {t t' : TI} (h : PI X tg e t) (i : ∀ σ H Q, t' σ H Q → t σ H Q) : PI X tg e t' := ⟨fun pins s σ H Q I q => h.run pins s σ H Q I (i _ _ _ q)⟩
theorem pi_or {X : Cx} {tg e : Expr} {t t' : TI} (h : PI X tg e t) (h' : PI X tg e t') : PI X tg e (fun σ H Q => t σ H Q ∨ t' σ H Q) := ⟨fun pins s σ H Q I q => q.elim (h.run pins s σ H Q I) (h'.run pins s σ H Q I)⟩
section
variable {X : Cx} {cl : Str → Option Addr} {W : WX} {tg : Expr}
theorem itl_ok {K : PySem.W.Frag} {ρ₀ : Rho} {h₀ : MH} {H₀ : Hp} {a : Addr} {vs : List V} {ds : List Dv} (q : H₀ a = some (.lst vs)) (n : ¬ Live ρ₀ h₀ a) (rs : RelDs K cl ρ₀ h₀ H₀ ds vs) : ItOk K cl ρ₀ h₀ H₀ ds .free (Itl K a) := by
  have at_ : ∀ {ρ h H}, Ext1 ρ₀ h₀ H₀ ρ h H → SqL K H a vs := fun e => .of (e.keep _ _ q n rfl).1
  have hl := rs.length
  refine ⟨fun ρ h H i hr e _ hi => ⟨vs, vs[i]'(by omega), at_ e, by simp⟩, fun ρ h H hr e _ => ⟨vs, at_ e, by rw [hl]; exact Nat.le_refl _⟩, fun ρ h H i d x H' hr e _ hd y => ?_⟩
  obtain ⟨y1, y2⟩ := y
  subst y1
  obtain ⟨v, hv, r⟩ := rs.get hd
  have y3 := y2 vs (at_ e)
  rw [hv] at y3
  cases y3
  exact ⟨hr, .refl _ _ _, r.mono0 e.toExt0⟩
theorem itt_ok {K : PySem.W.Frag} {ρ₀ : Rho} {h₀ : MH} {H₀ : Hp} {a : Addr} {vs : List V} {ds : List Dv} (q : (H₀ a = some (.tup vs) ∧ ¬ Live ρ₀ h₀ a) ∨ (KT K a vs ∧ vs = [])) (rs : RelDs K cl ρ₀ h₀ H₀ ds vs) : ItOk K cl ρ₀ h₀ H₀ ds .free (Itt K a) := by
  have at_ : ∀ {ρ h H}, Ext1 ρ₀ h₀ H₀ ρ h H → SqT K H a vs := fun e => q.elim (fun q => .inl (.inl (e.keep _ _ q.1 q.2 rfl).1)) fun q => .inr q.1
  have hl := rs.length
  refine ⟨fun ρ h H i hr e _ hi => ⟨vs, vs[i]'(by omega), at_ e, by simp⟩, fun ρ h H hr e _ => ⟨vs, at_ e, by rw [hl]; exact Nat.le_refl _⟩, fun ρ h H i d x H' hr e _ hd y => ?_⟩
  obtain ⟨y1, y2⟩ := y
  subst y1
  obtain ⟨v, hv, r⟩ := rs.get hd
  have y3 := y2 vs (at_ e)
  rw [hv] at y3
  cases y3
  exact ⟨hr, .refl _ _ _, r.mono0 e.toExt0⟩
/-- a cell's list, that must stay -/
theorem itc_ok {K : PySem.W.Frag} {ρ₀ : Rho} {h₀ : MH} {H₀ : Hp} {a : Addr} {i₀ : Nat} {ds : List Dv} (hm : ρ₀.map i₀ = some a) : ItOk K cl ρ₀ h₀ H₀ ds (.cell i₀) (Itl K a) := by
  have at_ : ∀ {ρ h H}, HRel K cl ρ h H → Ext1 ρ₀ h₀ H₀ ρ h H → (Gd.cell i₀).ok ds h = true → ∃ vs, SqL K H a vs ∧ RelDs K cl ρ h H ds vs := fun {ρ h H} hr e g => by
    have hc : h[i₀]? = some (.lst ds) := cellIs_iff.mp g
    obtain ⟨b, hb, vs, ev, rs⟩ := hr.cells i₀ _ hc
    rw [e.rho _ _ hm] at hb; cases hb
    exact ⟨vs, .of ev, rs⟩
  refine ⟨fun ρ h H i hr e g hi => ?_, fun ρ h H hr e g => ?_, fun ρ h H i d x H' hr e g hd y => ?_⟩
  · obtain ⟨vs, q, rs⟩ := at_ hr e g
    have hl := rs.length
    exact ⟨vs, vs[i]'(by omega), q, by simp⟩
  · obtain ⟨vs, q, rs⟩ := at_ hr e g
    exact ⟨vs, q, by rw [rs.length]; exact Nat.le_refl _⟩
  · obtain ⟨vs, q, rs⟩ := at_ hr e g
    obtain ⟨y1, y2⟩ := y
    subst y1
    obtain ⟨v, hv, r⟩ := rs.get hd
    have y3 := y2 vs q
    rw [hv] at y3
    cases y3
    exact ⟨hr, .refl _ _ _, r⟩
def rangeD (lo hi : Int) : List Dv := (List.range (hi - lo).toNat).map fun k => .int (lo + (k : Nat))
theorem itr_ok {K : PySem.W.Frag} {ρ₀ : Rho} {h₀ : MH} {H₀ : Hp} (lo hi : Int) : ItOk K cl ρ₀ h₀ H₀ (rangeD lo hi) .free (Itr lo (hi - lo).toNat) := by
  have hl : (rangeD lo hi).length = (hi - lo).toNat := by unfold rangeD; rw [List.length_map, List.length_range]
  refine ⟨fun ρ h H i hr e _ h => by rw [hl] at h; exact h, fun ρ h H hr e _ => by rw [hl]; exact Nat.le_refl _, fun ρ h H i d x H' hr e _ hd y => ?_⟩
  obtain ⟨y1, y2⟩ := y
  subst y1 y2
  unfold rangeD at hd
  rw [List.getElem?_map] at hd
  cases hk : (List.range (hi - lo).toNat)[i]? with
  | none => rw [hk] at hd; cases hd
  | some k =>
    rw [hk] at hd
    have hk' := (List.getElem?_eq_some_iff.mp hk).2
    rw [List.getElem_range] at hk'
    subst hk'
    cases hd
    exact ⟨hr, .refl _ _ _, .int _⟩
/-- over a list, a tuple, a cell's list -/
def asIt : Dv → MH → Res (List Dv × Gd)
  | .lst xs, h => .ok (xs, .free) h
  | .tup xs, h => .ok (xs, .free) h
  | .obj i, h => match h[i]? with
    | some (.lst xs) => .ok (xs, .cell i) h
    | _ => .stuck
  | _, _ => .stuck
def iVal (m : ME) : MI := fun τ h => (m τ h).bind asIt
theorem ji_val {e : Expr} {m : ME} (he : JE cl W X e m) : JI cl W X tg e (iVal m) := by
  refine pi_imp (pi_or (pi_list he) (pi_tup he)) fun σ H Q q => ?_
  obtain ⟨τ, ρ, h, hr, er, p⟩ := q
  have p' : Post X.K cl (RI X.K cl) W σ ρ h H ((m τ h).bind asIt) Q := p
  cases em : m τ h with
  | err c xs h1 => rw [em] at p'; exact .inl ⟨τ, ρ, h, hr, er, by rw [em]; exact p'⟩
  | stuck => rw [em] at p'; exact p'.elim
  | ok d h1 =>
    rw [em] at p'
    have p1 : Post X.K cl (RI X.K cl) W σ ρ h H (asIt d h1) Q := p'
    cases d with
    | lst xs =>
      left
      refine ⟨τ, ρ, h, hr, er, ?_⟩
      rw [em]
      intro ρ1 H1 v hr1 e1 r1
      cases r1 with
      | @lst a _ vs q n rs => exact ⟨a, rfl, ⟨vs, .of q⟩, p1 ρ1 H1 _ hr1 e1 (itl_ok q n rs)⟩
    | tup xs =>
      right
      refine ⟨τ, ρ, h, hr, er, ?_⟩
      rw [em]
      intro ρ1 H1 v hr1 e1 r1
      cases r1 with
      | @tup a _ vs q rs => exact ⟨a, rfl, ⟨vs, sqT_of q⟩, p1 ρ1 H1 _ hr1 e1 (itt_ok q rs)⟩
    | obj i =>
      have p1 : Post X.K cl (RI X.K cl) W σ ρ h H (match h1[i]? with
        | some (.lst xs) => .ok (xs, .cell i) h1
        | _ => .stuck) Q := p1
      cases hi : h1[i]? with
      | none => simp only [hi] at p1; exact p1.elim
      | some c =>
        cases c with
        | lst xs =>
          simp only [hi] at p1
          left
          refine ⟨τ, ρ, h, hr, er, ?_⟩
          rw [em]
          intro ρ1 H1 v hr1 e1 r1
          cases r1 with
          | @obj _ a q =>
            obtain ⟨b, hb, vs, ev, rs⟩ := hr1.cells i _ hi
            rw [q] at hb; cases hb
            exact ⟨a, rfl, ⟨vs, .of ev⟩, p1 ρ1 H1 _ hr1 e1 (itc_ok q)⟩
        | _ => simp only [hi] at p1; exact p1.elim
    | _ => exact p1.elim
/-- range(j), range(i, j) -/
def cRng (i : Int) : Bool := decide (-(2 ^ 62) ≤ i ∧ i < 2 ^ 62)
def asR1 : List Dv → MH → Res (List Dv × Gd)
  | [.int j], h => if cRng j = true then .ok (rangeD 0 j, .free) h else .stuck
  | _, _ => .stuck
def asR2 : List Dv → MH → Res (List Dv × Gd)
  | [.int i, .int j], h => if (cRng i && cRng j) = true then .ok (rangeD i j, .free) h else .stuck
  | _, _ => .stuck
def iRange1 (ms : MA) : MI := fun τ h => (ms τ h).bind asR1
def iRange2 (ms : MA) : MI := fun τ h => (ms τ h).bind asR2
theorem ji_range1 {a : Expr} {ms : MA} {p pos : Pos} (hg : Gl X "range") (hm : X.mg "range" = none) (ha : JA cl W X [a] ms) (hs : starEach [a] X.env = [(false, eval a X.env)] := by rfl) : JI cl W X tg (.Call (.Name "range" p) [a] [] pos) (iRange1 ms) := by
  refine pi_imp (pi_range1 hg hm ha hs) fun σ H Q q => ?_
  refine tM_bind (R1 := RDs X.K cl) (f := fun _ => asR1) q fun τ ρ1 h1 H1 d v hr1 er1 r1 p1 => ?_
  unfold asR1 at p1
  split at p1
  · split at p1
    · rename_i hc
      obtain ⟨v, rfl, r⟩ := r1.one
      cases r
      have hc := of_decide_eq_true hc
      refine ⟨_, rfl, hc.1, hc.2, p1 ρ1 H1 _ hr1 (.refl _ _ _) ?_⟩
      have z := itr_ok (K := X.K) (cl := cl) (ρ₀ := ρ1) (h₀ := h1) (H₀ := H1) 0 ‹Int›
      rw [Int.sub_zero] at z
      exact z
    · exact p1.elim
  · exact p1.elim
theorem ji_range2 {a b : Expr} {ms : MA} {p pos : Pos} (hg : Gl X "range") (hm : X.mg "range" = none) (ha : JA cl W X [a, b] ms) (hs : starEach [a, b] X.env = [(false, eval a X.env), (false, eval b X.env)] := by rfl) (hs2 : starEach [b] X.env = [(false, eval b X.env)] := by rfl) :
    JI cl W X tg (.Call (.Name "range" p) [a, b] [] pos) (iRange2 ms) := by
  refine pi_imp (pi_range2 hg hm ha hs hs2) fun σ H Q q => ?_
  refine tM_bind (R1 := RDs X.K cl) (f := fun _ => asR2) q fun τ ρ1 h1 H1 d v hr1 er1 r1 p1 => ?_
  unfold asR2 at p1
  split at p1
  · split at p1
    · rename_i hc
      obtain ⟨v, w, rfl, r, r'⟩ := r1.two
      cases r
      cases r'
      rw [Bool.and_eq_true] at hc
      have h1' := of_decide_eq_true hc.1
      have h2' := of_decide_eq_true hc.2
      exact ⟨_, _, rfl, ⟨h1'.1, h1'.2, h2'.1, h2'.2⟩, p1 ρ1 H1 _ hr1 (.refl _ _ _) (itr_ok _ _)⟩
    · exact p1.elim
  · exact p1.elim
end

/-! ### for -/
noncomputable def forL (g : Gd) (all : List Dv) (mg : MG) (body : MS) : List Dv → MEnv → MH → RS
  | [], τ, h => if g.ok all h = true then .nx τ h else .stuck
  | d :: ds, τ, h => if g.ok all h = true then (match mg d τ with
    | some τ1 => (match body τ1 h with
      | .nx τ2 h2 => forL g all mg body ds τ2 h2
      | .ct τ2 h2 => forL g all mg body ds τ2 h2
      | .bk τ2 h2 => .nx τ2 h2
      | r => r)
    | none => .stuck) else .stuck
noncomputable def sFor (mi : MI) (mg : MG) (body : MS) : MS := fun τ h => (mi τ h).toS τ fun p h1 => forL p.2 p.1 mg body p.1 τ h1
section
variable {X : Cx} {cl : Str → Option Addr} {W : WX} {tg iter : Expr} {st : List Stmt} {mi : MI} {mg : MG} {sl : List Nat} {body : MS} {pos : Pos}
theorem drop_cons {α : Type} {l : List α} {i : Nat} (h : i < l.length) : l.drop i = l[i] :: l.drop (i + 1) := List.drop_eq_getElem_cons h
theorem for_of {D : Ends} {σ : St} {H : Hp} (q : tS X.K cl W (sFor mi mg body) D σ H) : tFor (tM X.K cl (RI X.K cl) W mi) (tG X.K cl sl mg) (tS X.K cl W body) D σ H := by
  refine tS_bind (R1 := RI X.K cl) (k := fun τ p h1 => forL p.2 p.1 mg body p.1 τ h1) q fun τ₀ ρ₀ h₀ H₀ p J hr0 er0 it p0 => ?_
  obtain ⟨ds, g⟩ := p
  have it : ItOk X.K cl ρ₀ h₀ H₀ ds g J := it
  have p0 : PostS X.K cl W D ρ₀ h₀ H₀ (forL g ds mg body ds τ₀ h₀) := p0
  refine ⟨fun i m σ H => m = ds.length - i ∧ i ≤ ds.length ∧ ∃ τ ρ h, HRel X.K cl ρ h H ∧ Ext ρ₀ h₀ H₀ ρ h H ∧ EnvR X.K cl ρ h H τ σ ∧ PostS X.K cl W D ρ h H (forL g ds mg body (ds.drop i) τ h),
    ⟨ds.length, by simp, Nat.zero_le _, τ₀, ρ₀, h₀, hr0, .refl _ _ _, er0, p0⟩, ?_⟩
  rintro i m σ H ⟨rfl, hi, τ, ρ, h, hr, e, er, p⟩
  by_cases hlt : i < ds.length
  · right
    rw [drop_cons hlt] at p
    unfold forL at p
    split at p
    · rename_i hg
      cases em : mg ds[i] τ with
      | none => simp only [em] at p; exact p.elim
      | some τ1 =>
        simp only [em] at p
        refine ⟨it.go ρ h H i hr e.toExt1 hg hlt, fun σ' H' => ∃ τ' ρ' h', HRel X.K cl ρ' h' H' ∧ Ext ρ₀ h₀ H₀ ρ' h' H' ∧ EnvR X.K cl ρ' h' H' τ' σ' ∧ PostS X.K cl W D ρ' h' H' (forL g ds mg body (ds.drop (i + 1)) τ' h'),
          fun σ' H' n => ⟨ds.length - (i + 1), by omega, rfl, hlt, n⟩, fun x H' y => ?_⟩
        obtain ⟨hr', e', rd⟩ := it.yld ρ h H i ds[i] x H' hr e.toExt1 hg (by simp [hlt]) y
        refine ⟨τ, ρ, h, ds[i], τ1, hr', er.mono e', rd, em, fun σ1 er1 _ _ => ⟨τ1, ρ, h, hr', er1, ?_⟩⟩
        have p := p.later e'
        cases eb : body τ1 h with
        | nx τ2 h2 =>
          simp only [eb] at p
          exact fun ρ2 H2 σ2 hr2 e2 er2 => ⟨τ2, ρ2, h2, hr2, (e.trans e').trans e2, er2, p.later e2⟩
        | ct τ2 h2 =>
          simp only [eb] at p
          exact fun ρ2 H2 σ2 hr2 e2 er2 => ⟨τ2, ρ2, h2, hr2, (e.trans e').trans e2, er2, p.later e2⟩
        | bk τ2 h2 => simp only [eb] at p; exact p
        | rt d h2 => simp only [eb] at p; exact p
        | err c xs τ2 h2 => simp only [eb] at p; exact p
        | stuck => simp only [eb] at p; exact p.elim
    · exact p.elim
  · have ei : i = ds.length := by omega
    subst ei
    left
    rw [List.drop_length] at p
    unfold forL at p
    split at p
    · rename_i hg
      exact ⟨it.stop ρ h H hr e.toExt1 hg, p ρ H σ hr (.refl _ _ _) er⟩
    · exact p.elim
theorem js_for (hp : PassesOwn (model X.prog X.w) X.A X.env X.xe) (hc : X.calm = true) (hi : JI cl W X tg iter mi) (hg : JG cl X tg sl mg) (hb : JSs cl W X st body) (hs : ∀ x, foldedSetIterable iter X.env x = pure x := by intro _; rfl) :
    JS cl W X (.For tg iter st [] pos) (sFor mi mg body) := ps_imp (ps_for hp hc hi hg hb hs) fun D σ H q => for_of q
end

/-! ### while -/
def whileN (c : MT) (body : MS) : Nat → MEnv → MH → RS
  | 0, _, _ => .stuck
  | n + 1, τ, h => (c τ h).toS τ fun k h1 => if k = true then (match body τ h1 with
      | .nx τ2 h2 => whileN c body n τ2 h2
      | .ct τ2 h2 => whileN c body n τ2 h2
      | .bk τ2 h2 => .nx τ2 h2
      | r => r) else .nx τ h1
/-- turns enough -/
def manyTurns : Nat := 1000000000000
def sWhile (c : MT) (body : MS) : MS := fun τ h => whileN c body manyTurns τ h
section
variable {X : Cx} {cl : Str → Option Addr} {W : WX} {ce : Expr} {c : MT} {st : List Stmt} {body : MS} {pos : Pos}
theorem while_of {D : Ends} {σ : St} {H : Hp} (q : tS X.K cl W (sWhile c body) D σ H) : tWhile (tM X.K cl RB W c) (tS X.K cl W body) D σ H := by
  obtain ⟨τ₀, ρ₀, h₀, hr0, er0, p0⟩ := q
  refine ⟨fun m σ H => ∃ τ ρ h, HRel X.K cl ρ h H ∧ EnvR X.K cl ρ h H τ σ ∧ PostS X.K cl W D ρ h H (whileN c body m τ h), ⟨manyTurns, τ₀, ρ₀, h₀, hr0, er0, p0⟩, ?_⟩
  rintro m σ H ⟨τ, ρ, h, hr, er, p⟩
  cases m with
  | zero => exact p.elim
  | succ n =>
    unfold whileN at p
    refine ⟨τ, ρ, h, hr, er, PostS.bind (R1 := RB) er p fun k h1 ρ1 H1 b hr1 e1 r1 p1 => ?_⟩
    cases r1
    cases k with
    | false =>
      refine iteF ?_
      rw [if_neg Bool.false_ne_true] at p1
      exact p1 ρ1 H1 σ hr1 (.refl _ _ _) (er.mono e1)
    | true =>
      refine iteT ⟨fun σ' H' => ∃ τ ρ h, HRel X.K cl ρ h H' ∧ EnvR X.K cl ρ h H' τ σ' ∧ PostS X.K cl W D ρ h H' (whileN c body n τ h), fun σ' H' z => ⟨n, Nat.lt_succ_self _, z⟩, τ, ρ1, h1, hr1, er.mono e1, ?_⟩
      rw [if_pos rfl] at p1
      cases eb : body τ h1 with
      | nx τ2 h2 =>
        simp only [eb] at p1
        exact fun ρ2 H2 σ2 hr2 e2 er2 => ⟨τ2, ρ2, h2, hr2, er2, p1.later e2⟩
      | ct τ2 h2 =>
        simp only [eb] at p1
        exact fun ρ2 H2 σ2 hr2 e2 er2 => ⟨τ2, ρ2, h2, hr2, er2, p1.later e2⟩
      | bk τ2 h2 => simp only [eb] at p1; exact p1
      | rt d h2 => simp only [eb] at p1; exact p1
      | err c xs τ2 h2 => simp only [eb] at p1; exact p1
      | stuck => simp only [eb] at p1; exact p1.elim
theorem js_while (hp : PassesOwn (model X.prog X.w) X.A X.env X.xe) (hc : JT cl W X ce c) (hb : JSs cl W X st body) : JS cl W X (.While ce st [] pos) (sWhile c body) := ps_imp (ps_while hp hc hb) fun D σ H q => while_of q
end

/-! ### [elt for tg in iter if ..] -/
def wipeD (τ : MEnv) : List Nat → MEnv
  | [] => τ
  | v :: vs => (wipeD τ vs).set v none
theorem wipe_rel {K : PySem.W.Frag} {cl : Str → Option Addr} {ρ : Rho} {h : MH} {H : Hp} {τ : MEnv} {σ : St} (r : EnvR K cl ρ h H τ σ) : ∀ vs : List Nat, EnvR K cl ρ h H (wipeD τ vs) (wipe σ vs)
  | [] => r
  | v :: vs => (wipe_rel r vs).unset v
theorem wipe_same {σ σ' : St} : ∀ (vs : List Nat), σ'.length = σ.length → (∀ i, i ∉ vs → σ'[i]? = σ[i]?) → wipe σ' vs = wipe σ vs := by
  have at_ : ∀ (σ : St) (vs : List Nat) (i : Nat), (wipe σ vs)[i]? = if i ∈ vs then (if i < σ.length then some none else none) else σ[i]? := by
    intro σ vs
    induction vs with
    | nil => intro i; simp [wipe]
    | cons v vs ih =>
      intro i
      show ((wipe σ vs).set v none)[i]? = _
      by_cases hv : v = i
      · subst hv
        by_cases hl : v < σ.length
        · rw [List.getElem?_set_self (by rw [wipe_length]; exact hl), if_pos List.mem_cons_self, if_pos hl]
        · rw [List.getElem?_eq_none (by rw [List.length_set, wipe_length]; omega), if_pos List.mem_cons_self, if_neg hl]
      · rw [List.getElem?_set_ne hv, ih i]
        have : (i ∈ v :: vs) ↔ i ∈ vs := by simp [Ne.symm hv]
        simp only [this]
  intro vs hl hs
  refine List.ext_getElem? fun i => ?_
  rw [at_, at_, hl]
  by_cases hi : i ∈ vs
  · rw [if_pos hi, if_pos hi]
  · rw [if_neg hi, if_neg hi, hs i hi]
noncomputable def lcL (g : Gd) (all : List Dv) (mg : MG) (tt : MT) (te : ME) (τ : MEnv) : List Dv → List Dv → MH → Res Dv
  | [], acc, h => if g.ok all h = true then .ok (.lst acc) h else .stuck
  | d :: ds, acc, h => if g.ok all h = true then (match mg d τ with
    | some τ1 => (match tt τ1 h with
      | .ok true h1 => (match te τ1 h1 with
        | .ok y h2 => if lineB (acc.length + 1) = true then lcL g all mg tt te τ ds (acc ++ [y]) h2 else .stuck
        | _ => .stuck)
      | .ok false h1 => lcL g all mg tt te τ ds acc h1
      | _ => .stuck)
    | none => .stuck) else .stuck
def mYes : MT := fun _ h => .ok true h
noncomputable def eLc (mi : MI) (mg : MG) (tt : MT) (te : ME) (vs : List Nat) : ME := fun τ h => (mi τ h).bind fun p h1 => lcL p.2 p.1 mg tt te (wipeD τ vs) p.1 [] h1
/-- a list that will change -/
noncomputable def eLcM (mi : MI) (mg : MG) (tt : MT) (te : ME) (vs : List Nat) : ME := fun τ h => (eLc mi mg tt te vs τ h).bind fun d h1 => match d with
  | .lst xs => .ok (.obj h1.length) (h1 ++ [.lst xs])
  | _ => .stuck
section
variable {X : Cx} {cl : Str → Option Addr} {W : WX} {tg iter elt : Expr} {ifs : List Expr} {scope : Scope} {own : List (Str × Nat)} {mi : MI} {mg : MG} {sl : List Nat} {tt : MT} {te : ME} {pos : Pos}
abbrev JTs (cl : Str → Option Addr) (W : WX) (X : Cx) (es : List Expr) (m : MT) : Prop := PTs X es (tM X.K cl RB W m)
theorem pts_imp {X : Cx} {e : List Expr} {t t' : TT} (h : PTs X e t) (i : ∀ σ H Q, t' σ H Q → t σ H Q) : PTs X e t' := ⟨fun pins s σ H Q I q => h.run pins s σ H Q I (i _ _ _ q)⟩
theorem jts_nil : JTs cl W X [] mYes := pts_imp pts_nil fun σ H Q q => by
  obtain ⟨τ, ρ, h, hr, er, p⟩ := q
  exact p ρ H true hr (.refl _ _ _) rfl
theorem jts_one {c : Expr} {m : MT} (h : JT cl W X c m) : JTs cl W X [c] m := pts_one h
theorem lc_of {vs : List Nat} (hsl : ∀ i ∈ sl, i ∈ vs) {σ : St} {H : Hp} {Q : VK} (q : tM X.K cl (RD X.K cl) W (eLc mi mg tt te vs) σ H Q) :
    tLc (tM X.K cl (RI X.K cl) W mi) (tG X.K cl sl mg) (tM X.K cl RB NoW tt) (tM X.K cl (RD X.K cl) NoW te) vs σ H Q := by
  refine tM_bind (R1 := RI X.K cl) (f := fun τ p h1 => lcL p.2 p.1 mg tt te (wipeD τ vs) p.1 [] h1) q fun τ₀ ρ₀ h₀ H₀ p J hr0 er0 it p0 => ?_
  obtain ⟨ds, g⟩ := p
  have it : ItOk X.K cl ρ₀ h₀ H₀ ds g J := it
  have p0 : Post X.K cl (RD X.K cl) W σ ρ₀ h₀ H₀ (lcL g ds mg tt te (wipeD τ₀ vs) ds [] h₀) Q := p0
  intro D hD
  obtain ⟨hrD, eD⟩ := hr0.hideNew (o := .lst []) hD
  refine ⟨fun i m H => m = ds.length - i ∧ i ≤ ds.length ∧ ∃ ρ h accD accV, HRel X.K cl ρ h H ∧ Ext ρ₀ h₀ H₀ ρ h H ∧ D ∈ ρ.hid ∧ H D = some (.lst accV) ∧ RelDs X.K cl ρ h H accD accV ∧ Post X.K cl (RD X.K cl) W σ ρ₀ h₀ H₀ (lcL g ds mg tt te (wipeD τ₀ vs) (ds.drop i) accD h) Q,
    ⟨ds.length, by simp, Nat.zero_le _, ρ₀.hide D, h₀, [], [], hrD, eD, List.mem_cons_self, upd_same, .nil, p0⟩, ?_⟩
  rintro i m H ⟨rfl, hi, ρ, h, accD, accV, hr, e, hm, hDl, ra, p⟩
  by_cases hlt : i < ds.length
  · right
    rw [drop_cons hlt] at p
    unfold lcL at p
    split at p
    · rename_i hg
      cases em : mg ds[i] (wipeD τ₀ vs) with
      | none => simp only [em] at p; exact p.elim
      | some τ1 =>
        simp only [em] at p
        refine ⟨it.go ρ h H i hr e.toExt1 hg hlt, fun H' => ∃ ρ h accD accV, HRel X.K cl ρ h H' ∧ Ext ρ₀ h₀ H₀ ρ h H' ∧ D ∈ ρ.hid ∧ H' D = some (.lst accV) ∧ RelDs X.K cl ρ h H' accD accV ∧ Post X.K cl (RD X.K cl) W σ ρ₀ h₀ H₀ (lcL g ds mg tt te (wipeD τ₀ vs) (ds.drop (i + 1)) accD h) Q,
          fun H' n => ⟨ds.length - (i + 1), by omega, rfl, hlt, n⟩, fun x H' y => ?_⟩
        obtain ⟨hr', e', rd⟩ := it.yld ρ h H i ds[i] x H' hr e.toExt1 hg (by simp [hlt]) y
        have er' : EnvR X.K cl ρ h H' (wipeD τ₀ vs) (wipe σ vs) := wipe_rel ((er0.mono e).mono e') vs
        refine ⟨wipeD τ₀ vs, ρ, h, ds[i], τ1, hr', er', rd, em, fun σ1 er1 l1 k1 => ⟨?_, ?_⟩⟩
        · rw [wipe_same (σ := wipe σ vs) (σ' := σ1) vs l1 fun i hi => k1 i fun z => hi (hsl i z)]
          exact wipe_same vs (wipe_length σ vs) fun i hi => wipe_out hi
        · refine ⟨τ1, ρ, h, hr', er1, ?_⟩
          cases et : tt τ1 h with
          | err c xs h1 => simp only [et] at p; exact p.elim
          | stuck => simp only [et] at p; exact p.elim
          | ok k h1 =>
            intro ρ1 H3 b hr1 e1 r1
            cases r1
            have hD3 : D ∈ ρ1.hid ∧ H3 D = some (.lst accV) := ⟨(e1.hid D hm).1, (e1.hid D hm).2.trans ((e'.hid D hm).2.trans hDl)⟩
            cases k with
            | false =>
              simp only [et] at p
              exact iteF ⟨ρ1, h1, accD, accV, hr1, (e.trans e').trans e1, hD3.1, hD3.2, (ra.mono e').mono e1, p⟩
            | true =>
              simp only [et] at p
              refine iteT ⟨τ1, ρ1, h1, hr1, er1.mono e1, ?_⟩
              cases ee : te τ1 h1 with
              | err c xs h2 => simp only [ee] at p; exact p.elim
              | stuck => simp only [ee] at p; exact p.elim
              | ok y h2 =>
                simp only [ee] at p
                split at p
                · rename_i hln
                  intro ρ2 H4 v hr2 e2 r2
                  have hD4 : D ∈ ρ2.hid ∧ H4 D = some (.lst accV) := ⟨(e2.hid D hD3.1).1, (e2.hid D hD3.1).2.trans hD3.2⟩
                  obtain ⟨w1, w2⟩ := hr2.hidW (o := .lst (accV ++ [v])) hD4.1
                  refine ⟨accV, hD4.2, by rw [← ra.length]; exact lineB_le hln, ρ2, h2, accD ++ [y], accV ++ [v], w1, ((((e.trans e').trans e1).trans e2).hidW hr0 hD), hD4.1, upd_same, ?_, p⟩
                  exact RelDs.mono0 w2.toExt0 ((((ra.mono e').mono e1).mono e2).append (.cons r2 .nil))
                · exact p.elim
    · exact p.elim
  · have ei : i = ds.length := by omega
    subst ei
    left
    rw [List.drop_length] at p
    unfold lcL at p
    split at p
    · rename_i hg
      refine ⟨it.stop ρ h H hr e.toExt1 hg, ?_⟩
      obtain ⟨u1, u2, u3⟩ := hr.unhide e
      refine p ⟨ρ.map, ρ₀.hid⟩ H (.ref D) u1 u3 (.lst hDl (fun l => ?_) (RelDs.mono0 u2.toExt0 ra))
      rcases l with ⟨j, c, hc, hl, hj⟩ | l
      · exact (hr.hidS D hm).2 j c hc hl hj
      · obtain ⟨o', ho'⟩ := (hr0.hidS D l).1
        rw [hD] at ho'; cases ho'
    · exact p.elim
theorem je_lc (hc : X.calm = true) (hN : X.N.Nodup) (hi : JI cl W X tg iter mi) (ok : BlkOk X.N X.env.scope scope own) (hsl : ∀ i ∈ sl, i ∈ own.map (·.2))
    (hg : ∀ (s : Shared) (H : Hp) (C : Addr) (cls : List (Str × Addr)) (fp : List Addr), JG cl (X.blk s H scope (compEnvC scope cls C X.env) fp) tg sl mg) (ht : ∀ (s : Shared) (H : Hp) (C : Addr) (cls : List (Str × Addr)) (fp : List Addr), JTs cl NoW (X.blk s H scope (compEnvC scope cls C X.env) fp) ifs tt)
    (he : ∀ (s : Shared) (H : Hp) (C : Addr) (cls : List (Str × Addr)) (fp : List Addr), JE cl NoW (X.blk s H scope (compEnvC scope cls C X.env) fp) elt te) (hs : ∀ x, foldedSetIterable iter X.env x = pure x := by intro _; rfl) :
    JE cl W X (.ListComp elt [⟨tg, iter, ifs, 0⟩] scope pos) (eLc mi mg tt te (own.map (·.2))) :=
  pe_imp (pe_lc hc hN hi ok hg ht he hs) fun σ H Q q => lc_of hsl q
theorem js_setLc {i : Nat} {y : Str} {py spos : Pos} (hc : X.calm = true) (hN : X.N.Nodup) (hy : X.N[i]? = some y) (hyl : X.env.scope.names.lookup y = some .local)
    (hsw : swapsWith (.ListComp elt [⟨tg, iter, ifs, 0⟩] scope pos) (some (.Name y py)) spos.line X.env = pure true) (hi : JI cl W X tg iter mi) (ok : BlkOk X.N X.env.scope scope own) (hsl : ∀ i ∈ sl, i ∈ own.map (·.2))
    (hg : ∀ (s : Shared) (H : Hp) (C : Addr) (cls : List (Str × Addr)) (fp : List Addr), JG cl (X.blk s H scope (compEnvC scope cls C X.env) fp) tg sl mg) (ht : ∀ (s : Shared) (H : Hp) (C : Addr) (cls : List (Str × Addr)) (fp : List Addr), JTs cl NoW (X.blk s H scope (compEnvC scope cls C X.env) fp) ifs tt)
    (he : ∀ (s : Shared) (H : Hp) (C : Addr) (cls : List (Str × Addr)) (fp : List Addr), JE cl NoW (X.blk s H scope (compEnvC scope cls C X.env) fp) elt te) (hs : ∀ x, foldedSetIterable iter X.env x = pure x := by intro _; rfl) :
    JS cl W X (.Assign [.Name y py] (.ListComp elt [⟨tg, iter, ifs, 0⟩] scope pos) spos) (sSet i (eLc mi mg tt te (own.map (·.2)))) := by
  refine ps_imp (ps_setLc (g := tG X.K cl sl mg) (tt := tM X.K cl RB NoW tt) (te := tM X.K cl (RD X.K cl) NoW te) hc hN hy hyl hsw hi ok hg ht he hs) fun D σ H q => ?_
  refine lc_of hsl ?_
  exact tS_bind (R1 := RD X.K cl) (k := fun τ d h1 => .nx (τ.set i (some d)) h1) q fun τ ρ1 h1 H1 d v hr1 er1 r1 p1 => p1 ρ1 H1 _ hr1 (.refl _ _ _) (er1.set i r1)
end
end L2.Mi

/-! MiFun: defs of the text, their promises, their calls; raise. -/
namespace L2.Mi
open PySem PySem.Spec PyProof.Rows
/-- a def's mirror: n parameters, N names, its body -/
def fnM (n N : Nat) (b : MS) : MF := fun ds h => if ds.length = n then (match b (ds.map some ++ List.replicate (N - n) none) h with
  | .rt d h1 => .ok d h1
  | .nx _ h1 => .ok .non h1
  | .err c xs _ h1 => .err c xs h1
  | _ => .stuck) else .stuck
/-- what such a def promises -/
def spM (K : PySem.W.Frag) (cl : Str → Option Addr) (n : Nat) (f : MF) : Sp := fun vs H Q E => ∃ ds ρ h, HRel K cl ρ h H ∧ RelDs K cl ρ h H ds vs ∧ ds.length = n ∧ Post K cl (RD K cl) (fun cv dd _ H => E cv dd H) [] ρ h H (f ds h) Q
theorem start_rel {K : PySem.W.Frag} {cl : Str → Option Addr} {ρ : Rho} {h : MH} {H : Hp} {ds : List Dv} {vs : List V} {N : List Str} (r : RelDs K cl ρ h H ds vs) : EnvR K cl ρ h H (ds.map some ++ List.replicate (N.length - ds.length) none) (start N vs) := by
  refine ⟨?_, fun i d e => ?_⟩
  · unfold start
    simp only [List.length_append, List.length_map, List.length_replicate, r.length]
  · by_cases hi : i < ds.length
    · rw [List.getElem?_append_left (by simpa using hi), List.getElem?_map] at e
      cases hd : ds[i]? with
      | none => rw [hd] at e; cases e
      | some x =>
        rw [hd] at e
        cases e
        obtain ⟨v, h1, h2⟩ := r.get hd
        refine ⟨v, ?_, h2⟩
        unfold start
        rw [List.getElem?_append_left (by rw [List.length_map, ← r.length]; exact hi), List.getElem?_map, h1]
        rfl
    · rw [List.getElem?_append_right (by simpa using hi)] at e
      rw [List.getElem?_replicate] at e
      split at e <;> cases e
/-- the wish of a def's body -/
abbrev wDef (E : XK) : WX := fun cv dd _ H => E cv dd H
section
variable {P : Program} {w : World} {K : PySem.W.Frag} {mg : Str → Option Value} {base : Heap} {cl : Str → Option Addr}
/-- THE RULE for a def -/
theorem fn_ok {x qual : Str} {params : Arguments} {st : List Stmt} {scope : Scope} {dvs : List V} {kws : List (Str × V)} {f : Addr} {fd : FuncData} {N ps : List Str} {k n nN : Nat} {b : MS} (F : FunD K x qual params st scope dvs kws f fd) (S : FnScope N ps scope) (hn : ps.length = n) (hN : N.length = nN)
    (hb : ∀ (cdv : Value) (A : Around) (outer : List Env) (s : Shared) (H : Hp) (E : XK), Room k (A.deeper (envOfC qual scope s.heap.objs.size f cdv)) →
      JSs cl (wDef E) (cxOf (L2.CX P w) P w K mg base N qual scope f cdv A outer s H E) st b) : FnOk P w K mg base (L2.CX P w) (k + 1) f fd ps (spM K cl n (fnM n nN b)) := by
  subst hn hN
  refine F.ok S (fun vs H Q E q => ?_) fun cdv A outer s H vs Q E hr q => ⟨tS K cl (wDef E) b, hb cdv A outer s H E hr, ?_⟩
  · obtain ⟨ds, ρ, h, _, r, l, _⟩ := q
    rw [← r.length, l]
  · obtain ⟨ds, ρ, h, hr1, r, l, p⟩ := q
    refine ⟨_, ρ, h, hr1, start_rel (N := N) r, ?_⟩
    unfold fnM at p
    rw [if_pos l] at p
    rw [l]
    cases eb : b (ds.map some ++ List.replicate (N.length - ps.length) none) h with
    | nx τ1 h1 => rw [eb] at p; exact fun ρ1 H1 σ1 hr1 e1 _ => p ρ1 H1 .non hr1 e1 .non
    | rt d h1 => rw [eb] at p; exact p
    | bk τ1 h1 => rw [eb] at p; exact p.elim
    | ct τ1 h1 => rw [eb] at p; exact p.elim
    | err c xs τ1 h1 => rw [eb] at p; exact fun ρ1 H1 σ1 cv dd hr1 e1 _ x => p ρ1 H1 cv dd hr1 e1 x
    | stuck => rw [eb] at p; exact p.elim
end
theorem Post.sig {α β : Type} {K : PySem.W.Frag} {cl : Str → Option Addr} {Rl : Rho → MH → Hp → α → β → Prop} {W : WX} {σ σ' : St} {ρ : Rho} {h : MH} {H : Hp} {r : Res α} {Q : β → Hp → Prop} (p : Post K cl Rl W σ ρ h H r Q) :
    Post K cl Rl (fun cv dd _ H => W cv dd σ H) σ' ρ h H r Q := by
  cases r with
  | ok a h' => exact p
  | err c xs h' => exact p
  | stuck => exact p

/-! ### calls -/
section
variable {X : Cx} {CX : CXT} {k n : Nat} {f C : Addr} {fd : FuncData} {ps ks : List Str} {sp : Sp} {E : XK} {g : List Value → List Value → List Value} {gV : List V → List V → List V}
theorem run_fnNS {pins : List (Addr × Obj)} {σ : St} {H : Hp} {s : Shared} {Q : VK} {us ws : List Value} {vs zs : List V} (F : FnOk X.prog X.w X.K X.mg X.base CX k f fd ps sp) (hr : Room k X.A) (hb : KBn X.K fd ps n ks g gV) (hx : PassesAt CX X σ E)
    (I : Inv X pins σ H s) (r : Vals vs us) (rz : Vals zs ws) (l1 : vs.length = n) (l2 : zs.length = ks.length) (h : sp (gV vs zs) H Q E) : wpAny (model X.prog X.w) X.A (call (.ref f) us (ks.zip ws)) (EP X pins σ Q) X.xe s := by
  have r2 := hb.rel r rz
  refine wpAny_call (codeAny_mono (F.run X.A X.stack s H ⟨us, ks.zip ws⟩ (g us ws) (gV vs zs) Q E hr I.env0 (hb.to s us ws I.kIn (r.length.symm.trans l1) (rz.length.symm.trans l2)) r2 h) fun r s' hq => ?_)
  cases r with
  | error e => exact hx pins H s e s' I hq
  | ok fl =>
    cases fl with
    | ret u => exact I.after hq
    | next => exact False.elim hq
    | brk => exact False.elim hq
    | cont => exact False.elim hq
theorem run_makeNS {pins : List (Addr × Obj)} {σ : St} {H : Hp} {s : Shared} {Q : VK} {us ws : List Value} {vs zs : List V} (M : Mk X.K C f) (F : FnOk X.prog X.w X.K X.mg X.base CX k f fd ps sp) (hr : Room (k + 1) X.A) (hb : KBn X.K fd ps (n + 1) ks g gV)
    (hx : PassesAt CX X σ E) (I : Inv X pins σ H s) (r : Vals vs us) (rz : Vals zs ws) (l1 : vs.length = n) (l2 : zs.length = ks.length)
    (h : ∀ x dx, H x = none → H dx = none → dx ≠ x → sp (gV (.ref x :: vs) zs) (upd (upd H dx (.own x)) x (.ins C dx [])) (fun v H2 => v = .non ∧ Q (.ref x) H2) E) :
    wpAny (model X.prog X.w) X.A (call (.ref C) us (ks.zip ws)) (EP X pins σ Q) X.xe s := by
  have hq := h (s.heap.objs.size + 1) s.heap.objs.size (I.hok.fresh (Nat.le_succ _)) (I.hok.fresh (Nat.le_refl _)) (Nat.ne_of_lt (Nat.lt_succ_self _))
  have I2 := Inv.made (C := C) I
  have r1 : Vals (V.ref (s.heap.objs.size + 1) :: vs) (Value.ref (s.heap.objs.size + 1) :: us) := .cons rfl r
  have r2 := hb.rel r1 rz
  have e1 : (Value.ref (s.heap.objs.size + 1) :: us).length = n + 1 := r1.length.symm.trans (congrArg Nat.succ l1)
  have e2 : ws.length = ks.length := rz.length.symm.trans l2
  refine wpAny_call (make_map (f := f) I.kIn M.makes M.init (beq_iff_eq.mp M.fn) (codeAny_mono (F.run _ X.stack _ _ ⟨Value.ref (s.heap.objs.size + 1) :: us, ks.zip ws⟩ (g (Value.ref (s.heap.objs.size + 1) :: us) ws) _ _ E (hr.make C us (ks.zip ws))
    (I2.env0.make C us (ks.zip ws)) (hb.to _ (Value.ref (s.heap.objs.size + 1) :: us) ws I2.kIn e1 e2) r2 hq) fun r s' hq' => ?_))
  cases r with
  | error e => exact hx pins _ _ e s' I2 hq'
  | ok fl =>
    cases fl with
    | ret u =>
      obtain ⟨v, H', I3, rv, ev, q3⟩ := I2.after hq'
      subst ev
      exact ⟨rv, ⟨V.ref (s.heap.objs.size + 1), H', I3, rfl, q3⟩⟩
    | next => exact False.elim hq'
    | brk => exact False.elim hq'
    | cont => exact False.elim hq'
end
/-- how a call's values come to the parameters -/
def KRel (K : PySem.W.Frag) (cl : Str → Option Addr) (n m : Nat) (gV : List V → List V → List V) (gD : List Dv → List Dv → List Dv) : Prop :=
  ∀ (ρ : Rho) (h : MH) (H : Hp) (ds : List Dv) (vs : List V) (zs : List Dv) (us : List V), ds.length = n → zs.length = m → RelDs K cl ρ h H ds vs → RelDs K cl ρ h H zs us → RelDs K cl ρ h H (gD ds zs) (gV vs us)
def eCall (n m : Nat) (gD : List Dv → List Dv → List Dv) (f : MF) (ms mk : MA) : ME := fun τ h => (ms τ h).bind fun ds h1 => (mk τ h1).bind fun zs h2 => if ds.length = n ∧ zs.length = m then f (gD ds zs) h2 else .stuck
abbrev JK (cl : Str → Option Addr) (W : WX) (X : Cx) (kws : List Keyword) (m : MA) : Prop := PK X kws (tM X.K cl (RDs X.K cl) W m)
theorem pk_imp {X : Cx} {e : List Keyword} {t t' : TA} (h : PK X e t) (i : ∀ σ H Q, t' σ H Q → t σ H Q) : PK X e t' := ⟨fun pos pins s σ H Q I q => h.run pos pins s σ H Q I (i _ _ _ q)⟩
section
variable {X : Cx} {cl : Str → Option Addr} {W : WX} {k n nf : Nat} {f C : Addr} {fd : FuncData} {ps ks : List Str} {fm : MF} {x : Str} {p pos kpos : Pos} {e : Expr} {es : List Expr} {kws : List Keyword} {me : ME} {ms mk : MA} {g : List Value → List Value → List Value} {gV : List V → List V → List V} {gD : List Dv → List Dv → List Dv} {nm : Option Str}
theorem jk_nil : JK cl W X [] aNil := pk_imp pk_nil fun σ H Q q => by
  obtain ⟨τ, ρ, h, hr, er, p⟩ := q
  exact p ρ H [] hr (.refl _ _ _) .nil
theorem jk_cons (ha : JE cl W X e me) (hr : JK cl W X kws mk) : JK cl W X (⟨nm, e, kpos⟩ :: kws) (aCons me mk) := by
  refine pk_imp (pk_cons ha hr) fun σ H Q q => ?_
  refine tM_bind (R1 := RD X.K cl) (f := fun τ x h1 => (mk τ h1).bind fun xs h2 => .ok (x :: xs) h2) q fun τ ρ1 h1 H1 d v hr1 er1 r1 p1 => ?_
  refine ⟨τ, ρ1, h1, hr1, er1, Post.bind p1 fun l h2 ρ2 H2 l' hr2 e2 r2 p2 => ?_⟩
  exact p2 ρ2 H2 _ hr2 (.refl _ _ _) (.cons (r1.mono e2) r2)
theorem args_of {σ : St} {H : Hp} {Q : VK} (hg : KRel X.K cl n ks.length gV gD) (hnf : ∀ ds zs, ds.length = n → zs.length = ks.length → (gD ds zs).length = nf) (q : tM X.K cl (RD X.K cl) W (eCall n ks.length gD fm ms mk) σ H Q) :
    tM X.K cl (RDs X.K cl) W ms σ H fun vs H1 => tM X.K cl (RDs X.K cl) W mk σ H1 fun zs H2 => vs.length = n ∧ zs.length = ks.length ∧ spM X.K cl nf fm (gV vs zs) H2 Q (WE W σ) := by
  refine tM_bind (R1 := RDs X.K cl) (f := fun τ ds h1 => (mk τ h1).bind fun zs h2 => if ds.length = n ∧ zs.length = ks.length then fm (gD ds zs) h2 else .stuck) q fun τ ρ1 h1 H1 ds vs hr1 er1 r1 p1 => ?_
  refine ⟨τ, ρ1, h1, hr1, er1, Post.bind p1 fun zs h2 ρ2 H2 us hr2 e2 r2 p2 => ?_⟩
  split at p2
  · rename_i hl
    exact ⟨by rw [← r1.length]; exact hl.1, by rw [← r2.length]; exact hl.2, gD ds zs, ρ2, h2, hr2, hg ρ2 h2 H2 ds vs zs us hl.1 hl.2 (r1.mono e2) r2, hnf ds zs hl.1 hl.2, p2.sig⟩
  · exact p2.elim
/-- f(e, .., k = v, ..) -/
theorem je_call (F : FnOk X.prog X.w X.K X.mg X.base (L2.CX X.prog X.w) k f fd ps (spM X.K cl nf fm)) (hr : Room k X.A) (hg : Gl X x) (hm : X.mg x = some (.ref f)) (hk : PySem.W.keepIn X.K (.ref f) = true) (hb : KBn X.K fd ps n ks g gV)
    (hgr : KRel X.K cl n ks.length gV gD) (hnf : ∀ ds zs, ds.length = n → zs.length = ks.length → (gD ds zs).length = nf) (tk : Takes X W)
    (ha : JA cl W X (e :: es) ms) (hkw : JK cl W X kws mk) (hall : (backToKw pos (keywordEach kws X.env)).all (·.1.isSome) = true := by rfl) (hks : (backToKw pos (keywordEach kws X.env)).filterMap (·.1) = ks := by rfl)
    (hdb : (x == ("__debug__" : Str)) = false := by decide) (he : starEach (e :: es) X.env = (false, eval e X.env) :: starEach es X.env := by rfl)
    (hpl : ((backTo pos (starEach (e :: es) X.env)).any (·.1) || (backToKw pos (keywordEach kws X.env)).any (·.1.isNone)) = false := by rfl) :
    JE cl W X (.Call (.Name x p) (e :: es) kws pos) (eCall n ks.length gD fm ms mk) := by
  refine ⟨fun pins s σ H Q I h => ?_⟩
  have h' := args_of hgr hnf h
  refine wpAny_Call_Name_kw (ld_glob I hg hm ?_ hdb)
  refine PySem.W.callWith_KW (h₀ := X.base) I.ok.mod.kin hk hall (thn (ha.run pos pins s σ H _ I h') fun us s1 ⟨vs, H1, I1, r, q⟩ => ?_) hpl he
  refine thn (hkw.run pos pins s1 σ H1 _ I1 q) fun ws s2 ⟨zs, H2, I2, rz, l1, l2, q2⟩ => ⟨I2.kIn, ?_⟩
  rw [hks]
  exact run_fnNS F hr hb (passAt tk σ) I2 r rz l1 l2 q2
/-- f(k = v, ..) -/
theorem je_call0 (F : FnOk X.prog X.w X.K X.mg X.base (L2.CX X.prog X.w) k f fd ps (spM X.K cl nf fm)) (hr : Room k X.A) (hg : Gl X x) (hm : X.mg x = some (.ref f)) (hk : PySem.W.keepIn X.K (.ref f) = true) (hb : KBn X.K fd ps 0 ks g gV)
    (hgr : KRel X.K cl 0 ks.length gV gD) (hnf : ∀ ds zs, ds.length = 0 → zs.length = ks.length → (gD ds zs).length = nf) (tk : Takes X W)
    (hkw : JK cl W X kws mk) (hall : (backToKw pos (keywordEach kws X.env)).all (·.1.isSome) = true := by rfl) (hks : (backToKw pos (keywordEach kws X.env)).filterMap (·.1) = ks := by rfl)
    (hdb : (x == ("__debug__" : Str)) = false := by decide)
    (hpl : ((backTo pos (starEach [] X.env)).any (·.1) || (backToKw pos (keywordEach kws X.env)).any (·.1.isNone)) = false := by rfl) :
    JE cl W X (.Call (.Name x p) [] kws pos) (eCall 0 ks.length gD fm aNil mk) := by
  refine ⟨fun pins s σ H Q I h => ?_⟩
  have h' := args_of hgr hnf h
  refine wpAny_Call_Name_kw (ld_glob I hg hm ?_ hdb)
  refine PySem.W.callWith_KW0 (h₀ := X.base) I.ok.mod.kin hk hall ?_ hpl
  obtain ⟨τ, ρ, h, hr1, er, p⟩ := h'
  have p := p ρ H [] hr1 (.refl _ _ _) .nil
  refine thn (hkw.run pos pins s σ H _ I p) fun ws s2 ⟨zs, H2, I2, rz, l1, l2, q2⟩ => ⟨I2.kIn, ?_⟩
  rw [hks]
  exact run_fnNS (us := []) (vs := []) F hr hb (passAt tk σ) I2 .nil rz rfl l2 q2
end
/-! ### raise X('..') -/
def sRaise (c : Str) : MS := fun τ h => .err c [] τ h
theorem js_raise {X : Cx} {cl : Str → Option Addr} {W : WX} {C : Addr} {bmB : List Value} {B newId initId : String} {x m c : Str} {j : Nat} {p p2 pos pos2 : Pos} (hc : X.calm = true) (tk : Takes X W) (F : ExcBaseFacts B newId initId bmB) (q : PySem.W.excIn X.K C bmB newId = true) (gC : X.mg x = some (.ref C)) (kC : PySem.W.keepIn X.K (.ref C) = true) (r : Raises X (.ref C)) (hcl : cl c = some C) (hg : Gl X x)
    (hdb : (x == ("__debug__" : Str)) = false := by decide) : JS cl W X (.Raise (some (.Call (.Name x p) [.Constant (.str m) j p2] [] pos)) none pos2) (sRaise c) := by
  refine ps_imp (ps_raise hc tk (pmk_own F q gC kC r hg hdb)) fun D σ H q => ?_
  obtain ⟨τ, ρ, h, hr, er, p⟩ := q
  exact p ρ H σ _ _ hr (.refl _ _ _) er ⟨C, hcl, rfl, .inl ⟨rfl, rfl⟩⟩
end L2.Mi

/-! MiMut: lists in cells: methods, items stored. -/
namespace L2.Mi
open PySem PySem.Spec PyProof.Rows
section
variable {X : Cx} {cl : Str → Option Addr}
/-- a cell's list gets other items -/
theorem put_lst {K : PySem.W.Frag} {ρ : Rho} {h : MH} {H : Hp} (hr : HRel K cl ρ h H) {i : Nat} {a : Addr} {c : Cell} {xs : List Dv} {vs : List V} (hi : h[i]? = some c) (hl : c.live = true) (ha : ρ.map i = some a) (rs : RelDs K cl ρ h H xs vs) :
    HRel K cl ρ (h.set i (.lst xs)) (upd H a (.lst vs)) ∧ Ext ρ h H ρ (h.set i (.lst xs)) (upd H a (.lst vs)) :=
  hr.write hi hl ha fun e => ⟨vs, upd_same, rs.mono e⟩
/-- the cell of a list -/
def cellL (h : MH) : Dv → Option (Nat × List Dv)
  | .obj i => match h[i]? with
    | some (.lst xs) => some (i, xs)
    | _ => none
  | _ => none
theorem cellL_rel {K : PySem.W.Frag} {ρ : Rho} {h : MH} {H : Hp} (hr : HRel K cl ρ h H) {d : Dv} {v : V} {i : Nat} {xs : List Dv} (rd : RelD K cl ρ h H d v) (e : cellL h d = some (i, xs)) :
    ∃ a vs, v = .ref a ∧ ρ.map i = some a ∧ h[i]? = some (.lst xs) ∧ H a = some (.lst vs) ∧ RelDs K cl ρ h H xs vs := by
  cases rd with
  | @obj j a q =>
    have e : (match h[j]? with
      | some (.lst xs) => some (j, xs)
      | _ => none) = some (i, xs) := e
    cases hj : h[j]? with
    | none => rw [hj] at e; cases e
    | some c =>
      rw [hj] at e
      cases c with
      | lst ys =>
        cases e
        obtain ⟨b, hb, vs, ev, rs⟩ := hr.cells i _ hj
        rw [q] at hb; cases hb
        exact ⟨a, vs, rfl, q, hj, ev, rs⟩
      | _ => cases e
  | _ => cases e
/-- a method of a list in its cell: what it tells, the new items -/
def oCell (g : List Dv → List Dv → Option (Dv × List Dv)) : Dv → List Dv → MH → Res Dv := fun d ds h => match cellL h d with
  | some (i, xs) => match g xs ds with
    | some (r, ys) => .ok r (h.set i (.lst ys))
    | none => .stuck
  | none => .stuck
structure MthM (X : Cx) (cl : Str → Option Addr) (id : String) (g : List Dv → List Dv → Option (Dv × List Dv)) : Prop where
  ex : ∃ r : V → List V → Hp → VK → Prop, MtR X id r ∧ ∀ (ρ : Rho) (h : MH) (H : Hp) (a : Addr) (xs ds : List Dv) (vs us : List V) (y : Dv) (ys : List Dv) (Q : VK), RelDs X.K cl ρ h H xs vs → RelDs X.K cl ρ h H ds us → H a = some (.lst vs) → g xs ds = some (y, ys) →
    (∀ w ws, RelD X.K cl ρ h H y w → RelDs X.K cl ρ h H ys ws → Q w (upd H a (.lst ws))) → r (.ref a) us H Q
/-- xs.m(..), xs in its cell -/
noncomputable def eMth (g : List Dv → List Dv → Option (Dv × List Dv)) (mo : ME) (ms : MA) : ME := fun τ h => (mo τ h).bind fun d h1 => match rdK h1 d with
  | some _ => (ms τ h1).bind fun ds h2 => oCell g d ds h2
  | none => .stuck
variable {W : WX} {o e : Expr} {es : List Expr} {mo : ME} {ms : MA} {name : Str} {apos cpos : Pos} {id : String} {g : List Dv → List Dv → Option (Dv × List Dv)}
theorem je_mth (pa : PlainAttrs "list") (slot : Slot "list" name id) (hty : typeOf (.builtin id) = pure (.type "method_descriptor")) (hm : MthM X cl id g) (ho : JE cl W X o mo) (ha : JA cl W X (e :: es) ms)
    (hbase : attributeBase o name X.env (eval o X.env) = eval o X.env := by rfl)
    (hfew : ((backTo cpos (starEach (e :: es) X.env)).all (fun x => !x.1) && (backToKw cpos (keywordEach [] X.env)).all (fun x => x.1.isSome)
      && decide ((e :: es).length + ([] : List Keyword).length + (if ([] : List Keyword).isEmpty then 0 else 1) < 30)) = true := by rfl)
    (hline : (apos.endLine == cpos.line) = true := by rfl) (hs : starEach (e :: es) X.env = (false, eval e X.env) :: starEach es X.env := by rfl) (hplain : (backTo cpos (starEach es X.env)).any (·.1) = false := by rfl) :
    JE cl W X (.Call (.Attribute o name apos) (e :: es) [] cpos) (eMth g mo ms) := by
  obtain ⟨r, h1, h2⟩ := hm.ex
  refine pe_imp (pe_bm pa slot hty h1 ho ha hbase hfew hline hs hplain) fun σ H Q q => ?_
  refine tM_bind (R1 := RD X.K cl) (f := fun τ d h1 => match rdK h1 d with
    | some _ => (ms τ h1).bind fun ds h2 => oCell g d ds h2
    | none => .stuck) q fun τ ρ1 h1 H1 d v hr1 er1 r1 p1 => ?_
  cases ek : rdK h1 d with
  | none => simp only [ek] at p1; exact p1.elim
  | some xs0 =>
    simp only [ek] at p1
    obtain ⟨a, vs0, rfl, sq, _⟩ := rdK_rel hr1 r1 ek
    refine ⟨.inl ⟨rfl, vs0, sq⟩, τ, ρ1, h1, hr1, er1, Post.bind p1 fun ds h2' ρ2 H2 us hr2 e2 r2 p2 => ?_⟩
    unfold oCell at p2
    split at p2
    · rename_i i xs ec
      split at p2
      · rename_i y ys eg
        obtain ⟨b, vs, eb, hm, hi, hH, rs⟩ := cellL_rel hr2 (r1.mono e2) ec
        cases eb
        refine h2 ρ2 h2' H2 a xs ds vs us y ys Q rs r2 hH eg fun w ws rw' rws => ?_
        obtain ⟨w1, w2⟩ := put_lst hr2 hi rfl hm rws
        exact p2 ρ2 _ w w1 w2 (rw'.mono w2)
      · exact p2.elim
    · exact p2.elim
/-! ### the methods -/
def gAppend : List Dv → List Dv → Option (Dv × List Dv)
  | xs, [y] => if lineB (xs.length + 1) = true then some (.non, xs ++ [y]) else none
  | _, _ => none
theorem mth_append : MthM X cl "list.append" gAppend := by
  refine ⟨⟨_, mt_append, fun ρ h H a xs ds vs us y ys Q rs rd hH e k => ?_⟩⟩
  unfold gAppend at e
  split at e
  · split at e
    · rename_i hl
      cases e
      obtain ⟨v, rfl, r⟩ := rd.one
      exact ⟨a, vs, v, rfl, rfl, hH, by rw [← rs.length]; exact lineB_le hl, k _ _ .non (rs.append (.cons r .nil))⟩
    · cases e
  · cases e
def gInsert : List Dv → List Dv → Option (Dv × List Dv)
  | xs, [.int i, y] => if (decide (0 ≤ i ∧ i < 2 ^ 63) && lineB (xs.length + 1)) = true then some (.non, xs.take i.toNat ++ [y] ++ xs.drop i.toNat) else none
  | _, _ => none
theorem mth_insert : MthM X cl "list.insert" gInsert := by
  refine ⟨⟨_, mt_insert, fun ρ h H a xs ds vs us y ys Q rs rd hH e k => ?_⟩⟩
  unfold gInsert at e
  split at e
  · split at e
    · rename_i hl
      cases e
      rw [Bool.and_eq_true] at hl
      have h0 := of_decide_eq_true hl.1
      obtain ⟨v, w, rfl, r, r'⟩ := rd.two
      cases r
      exact ⟨a, vs, _, w, rfl, rfl, hH, by rw [← rs.length]; exact lineB_le hl.2, h0.1, h0.2, k _ _ .non (((rs.take _).append (.cons r' .nil)).append (rs.drop _))⟩
    · cases e
  · cases e
def gRemove : List Dv → List Dv → Option (Dv × List Dv)
  | xs, [.int k] => match intsOf xs with
    | some ns => if ns.contains k = true then some (.non, (ns.erase k).map Dv.int) else none
    | none => none
  | _, _ => none
theorem mth_remove : MthM X cl "list.remove" gRemove := by
  refine ⟨⟨_, mt_remove, fun ρ h H a xs ds vs us y ys Q rs rd hH e k => ?_⟩⟩
  unfold gRemove at e
  split at e
  · split at e
    · rename_i ns ei
      split at e
      · rename_i hc
        cases e
        obtain ⟨v, rfl, r⟩ := rd.one
        cases r
        obtain ⟨e1, e2⟩ := intsOf_rel rs ei
        obtain ⟨j, j1, j2, j3, j4⟩ := first_at (by simpa using hc : _ ∈ ns)
        refine ⟨a, ns, _, j, rfl, rfl, by rw [hH, e1], j2, j3, ?_⟩
        rw [j4]
        exact k _ _ .non (.ints _)
      · cases e
    · cases e
  · cases e
def gPop : List Dv → List Dv → Option (Dv × List Dv)
  | xs, [.int i] => if (decide (-(2 ^ 63) ≤ i ∧ i < 2 ^ 63)) = true then (ixN xs.length i).bind fun j => (xs[j]?).map fun d => (d, xs.eraseIdx j) else none
  | _, _ => none
theorem RelDs.eraseIdx {K : PySem.W.Frag} {ρ : Rho} {h : MH} {H : Hp} : ∀ {xs : List Dv} {us : List V} (i : Nat), RelDs K cl ρ h H xs us → RelDs K cl ρ h H (xs.eraseIdx i) (us.eraseIdx i)
  | _, _, _, .nil => .nil
  | _, _, 0, .cons _ t => t
  | _, _, i + 1, .cons q t => .cons q (RelDs.eraseIdx i t)
theorem mth_pop : MthM X cl "list.pop" gPop := by
  refine ⟨⟨_, mt_popAt, fun ρ h H a xs ds vs us y ys Q rs rd hH e k => ?_⟩⟩
  unfold gPop at e
  split at e
  · split at e
    · rename_i i hc
      have h0 := of_decide_eq_true hc
      obtain ⟨v, rfl, r⟩ := rd.one
      cases r
      cases ej : ixN xs.length i with
      | none => rw [ej] at e; cases e
      | some j =>
        rw [ej, Option.bind_some] at e
        cases ex : xs[j]? with
        | none => rw [ex] at e; cases e
        | some d =>
          rw [ex] at e
          cases e
          obtain ⟨w, hw, rw'⟩ := rs.get ex
          exact ⟨a, vs, i, j, w, rfl, rfl, hH, h0.1, h0.2, by rw [← rs.length]; exact (ixN_seq ej).1, hw, k _ _ rw' (rs.eraseIdx j)⟩
    · cases e
  · cases e
/-! ### xs[i] = e -/
/-- into a list in its cell -/
def oSetL : Dv → Dv → Dv → MH → Option MH := fun o i v h => match cellL h o, i with
  | some (c, xs), .int k => (ixN xs.length k).map fun j => h.set c (.lst (xs.set j v))
  | _, _ => none
def sSetIx (m : ME) (mo mi : ME) (f : Dv → Dv → Dv → MH → Option MH) : MS := fun τ h => (m τ h).toS τ fun v h1 => (mo τ h1).toS τ fun o h2 => (mi τ h2).toS τ fun i h3 => match f o i v h3 with
  | some h4 => .nx τ h4
  | none => .stuck
theorem js_setix {e o i : Expr} {m mo mi : ME} {pos' pos : Pos} (he : JE cl W X e m) (ho : JE cl W X o mo) (hi : JE cl W X i mi) (hs : swapsWithSole [.Subscript o i pos'] e pos.line X.env = pure false := by rfl) (hw : swappedStores [.Subscript o i pos'] e X.env = pure none := by rfl)
    (h1 : (assignEach [.Subscript o i pos'] X.env).map (·.2) = [assign (.Subscript o i pos') X.env] := by rfl)
    (hsub : ∀ v, assign (.Subscript o i pos') X.env v = (do
      let ov ← holding [v] (eval o X.env)
      let iv ← holding [v, ov] (eval i X.env)
      standAt pos'
      holding [v, ov, iv] (setItem ov iv v)
      release [v, ov, iv] []) := by intro _; rfl) : JS cl W X (.Assign [.Subscript o i pos'] e pos) (sSetIx m mo mi oSetL) := by
  refine ps_imp (ps_asg he (pg_sub ho hi set_list hsub) hs hw h1) fun D σ H q => ?_
  refine tS_bind (R1 := RD X.K cl) (k := fun τ v h1 => (mo τ h1).toS τ fun o h2 => (mi τ h2).toS τ fun i h3 => match oSetL o i v h3 with
    | some h4 => .nx τ h4
    | none => .stuck) q fun τ ρ1 h1 H1 d v hr1 er1 r1 p1 => ?_
  refine ⟨τ, ρ1, h1, hr1, er1, PostS.bind er1 p1 fun od h2 ρ2 H2 ov hr2 e2 r2 p2 => ?_⟩
  refine ⟨τ, ρ2, h2, hr2, er1.mono e2, PostS.bind (er1.mono e2) p2 fun id h3 ρ3 H3 iv hr3 e3 r3 p3 => ?_⟩
  unfold oSetL at p3
  cases ec : cellL h3 od with
  | none => simp only [ec] at p3; exact p3.elim
  | some cx =>
    obtain ⟨c, xs⟩ := cx
    simp only [ec] at p3
    cases r3 with
    | int k =>
      have p3 : PostS X.K cl W D ρ3 h3 H3 (match (ixN xs.length k).map fun j => h3.set c (.lst (xs.set j d)) with
        | some h4 => .nx τ h4
        | none => .stuck) := p3
      cases ej : ixN xs.length k with
      | none => rw [ej] at p3; exact p3.elim
      | some j =>
        rw [ej] at p3
        obtain ⟨a, vs, rfl, hm, hc, hH, rs⟩ := cellL_rel hr3 (r2.mono e3) ec
        refine ⟨a, vs, k, j, rfl, rfl, hH, by rw [← rs.length]; exact ej, ?_⟩
        obtain ⟨w1, w2⟩ := put_lst hr3 hc rfl hm (RelDs.set ((r1.mono e2).mono e3) j rs)
        exact p3 ρ3 _ σ w1 w2 (((er1.mono e2).mono e3).mono w2)
    | _ => exact p3.elim
end
end L2.Mi

/-! MiIs: isinstance against built-in classes. -/
namespace L2.Mi
open PySem PySem.Spec PyProof.Rows
/-- the type's name of what is no instance of an own class -/
def tyN (h : MH) : Dv → Option String
  | .non => some "NoneType"
  | .bl _ => some "bool"
  | .int _ => some "int"
  | .str _ => some "str"
  | .lst _ => some "list"
  | .kls _ => some "list"
  | .tup _ => some "tuple"
  | .dct _ => some "dict"
  | .obj i => match h[i]? with
    | some (.lst _) => some "list"
    | some (.dct _) => some "dict"
    | _ => none
  | .exc _ _ => none
  | .odd => some "dict"
def subTy (a T : String) : Bool := a == T || (a == "bool" && T == "int")
def isBT (T : String) : Bool := ["int", "bool", "str", "list", "tuple", "dict"].contains T
theorem tyN_mem {h : MH} {d : Dv} {a : String} (e : tyN h d = some a) : a = "NoneType" ∨ a = "bool" ∨ a = "int" ∨ a = "str" ∨ a = "list" ∨ a = "tuple" ∨ a = "dict" := by
  unfold tyN at e
  split at e <;> first | (cases e; simp; done) | (cases e; done) | (split at e <;> first | (cases e; simp; done) | (cases e; done))
theorem kit_all : (["NoneType", "bool", "int", "str", "list", "tuple", "dict"].all fun a => ["int", "bool", "str", "list", "tuple", "dict"].all fun T => decide (kitB a T = some (subTy a T))) = true := by decide +kernel
theorem kit_sub {h : MH} {d : Dv} {a T : String} (e : tyN h d = some a) (hT : isBT T = true) : kitB a T = some (subTy a T) := by
  have k := kit_all
  rw [List.all_eq_true] at k
  have ha : a ∈ ["NoneType", "bool", "int", "str", "list", "tuple", "dict"] := by
    rcases tyN_mem e with h | h | h | h | h | h | h <;> subst h <;> decide
  have k1 := k a ha
  rw [List.all_eq_true] at k1
  have hm : T ∈ ["int", "bool", "str", "list", "tuple", "dict"] := by unfold isBT at hT; exact List.contains_iff_mem.mp hT
  exact of_decide_eq_true (k1 T hm)
section
variable {X : Cx} {cl : Str → Option Addr}
/-- a value's type: TyX, or a locked dict -/
def TyZ (K : PySem.W.Frag) (H : Hp) (v : V) (t : Value) : Prop := TyX K H v t ∨ (∃ a o kvs, v = .ref a ∧ H a = some (.frz o (.dT kvs)) ∧ t = .type "dict") ∨ ∃ a o, v = .ref a ∧ H a = some (.ext (PinO a o)) ∧ o.ExactDict ∧ t = .type "dict"
def rIsiZ (K : PySem.W.Frag) : List V → Hp → VK → Prop := fun xs H Q => ∃ (x c : V) (t u : Value) (b : Bool), xs = [x, c] ∧ ClsV c u ∧ TyZ K H x t ∧ PySem.W.kitOne K t u = some b ∧ Q (.bl b) H
theorem kit_ofZ {pins : List (Addr × Obj)} {σ : St} {H : Hp} {s : Shared} {x : V} {u t : Value} (I : Inv X pins σ H s) (rx : RelV x u) (ty : TyZ X.K H x t) : ∃ P : Heap → Prop, PySem.W.KitX X.K u t P ∧ P s.heap ∧ u ≠ .builtin "__main__.__loader__#opaque" := by
  rcases ty with ty | ⟨a, o, kvs, rfl, ea, rfl⟩ | ⟨a, o, rfl, ea, hx, rfl⟩
  · exact kit_of I rx ty
  · cases (show u = Value.ref a from rx)
    obtain ⟨_, _, _, vs, _, o', es, ep, h1, h2, _⟩ := (show ObjOk X.prog X.w H s.heap a (.frz o (.dT kvs)) from I.hok a _ ea)
    exact ⟨_, PySem.W.kitx_dict, ⟨o', h1, h2.1⟩, fun z => nomatch z⟩
  · cases (show u = Value.ref a from rx)
    obtain ⟨h1, _⟩ := (show ObjOk X.prog X.w H s.heap a (.ext (PinO a o)) from I.hok a _ ea)
    exact ⟨_, PySem.W.kitx_dict, ⟨o, h1, hx.1⟩, fun z => nomatch z⟩
theorem call_isiZ : CallR X (.builtin "isinstance") (rIsiZ X.K) := by
  intro pins s σ H xs us Q I r h
  obtain ⟨x, c, t, u, b, rfl, k, ty, e, q⟩ := h
  cases r with
  | cons r1 rr =>
    cases rr with
    | cons r2 rr =>
      cases rr
      have e2 := k.eq r2
      subst e2
      obtain ⟨P, Z, p, hx⟩ := kit_ofZ I r1 ty
      exact PySem.W.kia_one Z I.kIn p e hx fun tk => ⟨.bl b, H, I.tok tk, rfl, q⟩
theorem tyX_of {K : PySem.W.Frag} {ρ : Rho} {h : MH} {H : Hp} (hr : HRel K cl ρ h H) {d : Dv} {v : V} {a : String} (r : RelD K cl ρ h H d v) (e : tyN h d = some a) : TyZ K H v (.type a) := by
  cases r with
  | non => cases e; exact .inl <| .base .non
  | bl b => cases e; exact .inl <| .base (.bl b)
  | int b => cases e; exact .inl <| .base (.int b)
  | str b => cases e; exact .inl <| .base (.str b)
  | lst q n rs => cases e; exact .inl <| .base (.lst q)
  | kls q rs =>
    cases e
    rcases q with ⟨q | ⟨o, q⟩, _⟩ | ⟨o, its, n, e1, e2, _⟩
    · exact .inl <| .base (.lst q)
    · exact .inl <| .base (.frz q)
    · exact .inl <| .kList e1 e2
  | tup q rs =>
    cases e
    rcases q with ⟨q, _⟩ | ⟨⟨o, its, n, e1, e2, _⟩, _⟩
    · exact .inl <| .base (.tup q)
    · exact .inl <| .kTuple e1 e2
  | dctK q n k rs =>
    cases e
    rcases q with q | ⟨o, q⟩
    · exact .inl <| .base (.dK q)
    · exact .inl <| .fDict q
  | dctT q n k rs =>
    cases e
    rcases q with q | ⟨o, q⟩
    · exact .inl <| .base (.dT q)
    · exact .inr (.inl ⟨_, _, _, rfl, q, rfl⟩)
  | @obj i b q =>
    have e : (match h[i]? with
      | some (.lst _) => some "list"
      | some (.dct _) => some "dict"
      | _ => none) = some a := e
    cases hi : h[i]? with
    | none => rw [hi] at e; cases e
    | some c =>
      rw [hi] at e
      obtain ⟨b', hb, cr⟩ := hr.cells i c hi
      rw [q] at hb; cases hb
      cases c with
      | lst xs => cases e; obtain ⟨vs, ev, _⟩ := cr; exact .inl <| .base (.lst ev)
      | dct xs =>
        cases e
        obtain ⟨ks, vs, cr⟩ := cr
        rcases cr with ⟨_, kvs, ev, _⟩ | ⟨_, kvs, ev, _⟩
        · exact .inl <| .base (.dK ev)
        · exact .inl <| .base (.dT ev)
      | dead => cases e
      | ins C fs => cases e
  | exc0 _ _ _ => cases e
  | exc1 _ _ _ _ _ _ => cases e
  | odd q n s od q2 n2 => cases e; exact .inr (.inr ⟨_, _, rfl, q, od.1, rfl⟩)
/-- isinstance(x, T) -/
def oIsT (T : String) : Dv → MH → Res Dv := fun d h => match tyN h d with
  | some a => .ok (.bl (subTy a T)) h
  | none => .stuck
variable {W : WX} {p pos p2 : Pos} {e : Expr} {m : ME}
theorem je_isT {T : String} {x : Str} (hT : isBT T = true) (hg : Gl X "isinstance") (hm : X.mg "isinstance" = none) (hg2 : Gl X x) (hm2 : X.mg x = none) (hv2 : bootBuiltins x = some (.type T)) (he : JE cl W X e m) (hn : x ≠ "__name__" := by decide) (hdb : (x == ("__debug__" : Str)) = false := by decide)
    (hs1 : starEach [e, .Name x p2] X.env = (false, eval e X.env) :: starEach [.Name x p2] X.env := by rfl) (hs2 : starEach [.Name x p2] X.env = (false, eval (.Name x p2) X.env) :: starEach [] X.env := by rfl) (hpl : (backTo pos (starEach [.Name x p2] X.env)).any (·.1) = false := by rfl) :
    JE cl W X (.Call (.Name "isinstance" p) [e, .Name x p2] [] pos) (eOp1 (oIsT T) m) := by
  refine pe_imp (pe_callB call_isiZ hg hm bt_isinstance (pa_cons he (pa_cons (pe_bltn hg2 hm2 hv2 (v := .ty T) rfl hn hdb) pa_nil hs2) hs1) (by decide) (by decide) hs1 hpl) fun σ H Q q => ?_
  refine tM_bind (R1 := RD X.K cl) (f := fun _ => oIsT T) q fun τ ρ1 h1 H1 d v hr1 er1 r1 p1 => ?_
  unfold oIsT at p1
  split at p1
  · rename_i a ea
    exact ⟨v, .ty T, _, _, _, rfl, .ty T, tyX_of hr1 r1 ea, kit_ty (kit_sub ea hT), p1 ρ1 H1 _ hr1 (.refl _ _ _) (.bl _)⟩
  · exact p1.elim
end
end L2.Mi

/-! MiProg: what a program's text says: its defs, constants, exceptions; short words for derivations. -/
namespace L2.Mi
open PySem PySem.Spec PyProof.Rows
/-- a def as it stands, and its promise -/
structure FnAt (P : Program) (w : World) (K : PySem.W.Frag) (mg : Str → Option Value) (base : Heap) (cl : Str → Option Addr) (x : Str) (st : Stmt) (dvs : List V) (kws : List (Str × V)) (k n : Nat) (ps : List Str) (M : MF) : Prop where
  ex : ∃ f fd, mg x = some (.ref f) ∧ PySem.W.keepIn K (.ref f) = true ∧ FunD K x x (defArgs st) (defBody st) (defScope st) dvs kws f fd ∧ FnOk P w K mg base (L2.CX P w) k f fd ps (spM K cl n M)
structure IntAt (mg : Str → Option Value) (x : Str) (i : Int) : Prop where
  ex : ∃ t, mg x = some (.int i t)
structure StrAt (mg : Str → Option Value) (x : Str) (i : Str) : Prop where
  ex : ∃ t, mg x = some (.str i t)
structure ExcAt (K : PySem.W.Frag) (mg : Str → Option Value) (cl : Str → Option Addr) (x : Str) : Prop where
  ex : ∃ C, cl x = some C ∧ mg x = some (.ref C) ∧ PySem.W.keepIn K (.ref C) = true ∧ PySem.W.excIn K C [.type "ValueError", .type "Exception", .type "BaseException", .type "object"] "ValueError.__new__" = true ∧
    PySem.W.subIn K (.ref C) (.type "BaseException") = some true ∧ PySem.W.typeIn K (.ref C) = some (.type "type")
theorem fund_mk {K : PySem.W.Frag} {x qual : Str} {params : Arguments} {body : List Stmt} {scope : Scope} {dvs : List V} {kws : List (Str × V)} {f : Addr} {oc : Value} {od an : Option Addr} {osl : Array (Option Value)} {dV kV doc pm cdv ct : Value}
    (l : K.lookup f = some ⟨oc, od, .func (PySem.W.fnOf x qual params body scope dV kV doc pm an cdv ct), osl⟩) (c : PySem.W.codeIn K cdv qual = true) (k : PySem.W.keepIn K (.ref f) = true) (d : DflV K dV dvs) (q : KwdV K kV kws) :
    FunD K x qual params body scope dvs kws f (PySem.W.fnOf x qual params body scope dV kV doc pm an cdv ct) := ⟨⟨oc, od, dV, kV, doc, pm, an, cdv, ct, osl, rfl, l, c, d, q⟩, k⟩
section
variable {K : PySem.W.Frag} {x qual : Str} {params : Arguments} {body : List Stmt} {scope : Scope} {kws : List (Str × V)} {f : Addr} {fd : FuncData} {ps ks : List Str} {n m : Nat}
/-- every parameter is written, in its place -/
theorem kb_all (F : FunD K x qual params body scope [] kws f fd) (n : Nat) (ks : List Str)
    (h : ∀ (kV doc pm : Value) (an : Option Addr) (cdv ct : Value) (us ws : List Value), us.length = n → ws.length = ks.length → bindArgs (PySem.W.fnOf x qual params body scope .none kV doc pm an cdv ct) ⟨us, ks.zip ws⟩ = pure (ps.zip (us ++ ws))) :
    ∃ g, KBn K fd ps n ks g (fun vs zs => vs ++ zs) := by
  obtain ⟨oc, od, dV, kV, doc, pm, an, cdv, ct, osl, rfl, lk, hcd, hD, hK⟩ := F.ex
  rcases hD with ⟨_, rfl⟩ | ⟨e, _⟩
  · exact ⟨fun us ws => us ++ ws, ⟨fun s us ws X h1 h2 => .of_eq (h kV doc pm an cdv ct us ws h1 h2), fun r1 r2 => r1.append r2⟩⟩
  · exact absurd rfl e
theorem krel_all {cl : Str → Option Addr} {n m : Nat} : KRel K cl n m (fun vs zs => vs ++ zs) (fun ds zs => ds ++ zs) := fun _ _ _ _ _ _ _ _ _ r1 r2 => r1.append r2
end
section
variable {X : Cx} {cl : Str → Option Addr} {W : WX} {k n nf : Nat} {st : Stmt} {dvs : List V} {kwd : List (Str × V)} {ps ks : List Str} {fm : MF} {x : Str} {p pos kpos : Pos} {e : Expr} {es : List Expr} {kws : List Keyword} {ms mk : MA} {gV : List V → List V → List V} {gD : List Dv → List Dv → List Dv}
theorem je_fn (G : FnAt X.prog X.w X.K X.mg X.base cl x st dvs kwd k nf ps fm) (hb : ∀ f fd, FunD X.K x x (defArgs st) (defBody st) (defScope st) dvs kwd f fd → ∃ g, KBn X.K fd ps n ks g gV)
    (hgr : KRel X.K cl n ks.length gV gD) (hnf : ∀ ds zs, ds.length = n → zs.length = ks.length → (gD ds zs).length = nf) (hr : Room k X.A) (hg : Gl X x) (tk : Takes X W)
    (ha : JA cl W X (e :: es) ms) (hkw : JK cl W X kws mk) (hall : (backToKw pos (keywordEach kws X.env)).all (·.1.isSome) = true := by rfl) (hks : (backToKw pos (keywordEach kws X.env)).filterMap (·.1) = ks := by rfl)
    (hdb : (x == ("__debug__" : Str)) = false := by decide) (he : starEach (e :: es) X.env = (false, eval e X.env) :: starEach es X.env := by rfl)
    (hpl : ((backTo pos (starEach (e :: es) X.env)).any (·.1) || (backToKw pos (keywordEach kws X.env)).any (·.1.isNone)) = false := by rfl) :
    JE cl W X (.Call (.Name x p) (e :: es) kws pos) (eCall n ks.length gD fm ms mk) := by
  obtain ⟨f, fd, hm, hk, hD, hF⟩ := G.ex
  obtain ⟨g, b⟩ := hb f fd hD
  exact je_call hF hr hg hm hk b hgr hnf tk ha hkw hall hks hdb he hpl
theorem je_fn0 (G : FnAt X.prog X.w X.K X.mg X.base cl x st dvs kwd k nf ps fm) (hb : ∀ f fd, FunD X.K x x (defArgs st) (defBody st) (defScope st) dvs kwd f fd → ∃ g, KBn X.K fd ps 0 ks g gV)
    (hgr : KRel X.K cl 0 ks.length gV gD) (hnf : ∀ ds zs, ds.length = 0 → zs.length = ks.length → (gD ds zs).length = nf) (hr : Room k X.A) (hg : Gl X x) (tk : Takes X W)
    (hkw : JK cl W X kws mk) (hall : (backToKw pos (keywordEach kws X.env)).all (·.1.isSome) = true := by rfl) (hks : (backToKw pos (keywordEach kws X.env)).filterMap (·.1) = ks := by rfl)
    (hdb : (x == ("__debug__" : Str)) = false := by decide)
    (hpl : ((backTo pos (starEach [] X.env)).any (·.1) || (backToKw pos (keywordEach kws X.env)).any (·.1.isNone)) = false := by rfl) :
    JE cl W X (.Call (.Name x p) [] kws pos) (eCall 0 ks.length gD fm aNil mk) := by
  obtain ⟨f, fd, hm, hk, hD, hF⟩ := G.ex
  obtain ⟨g, b⟩ := hb f fd hD
  exact je_call0 hF hr hg hm hk b hgr hnf tk hkw hall hks hdb hpl
theorem je_intc {i : Int} (T : IntAt X.mg x i) (hg : Gl X x) (hdb : (x == ("__debug__" : Str)) = false := by decide) : JE cl W X (.Name x pos) (eC (.int i)) := by
  obtain ⟨t, h⟩ := T.ex
  exact je_glob hg h rfl ⟨t, rfl⟩ hdb
theorem je_strc {i : Str} (T : StrAt X.mg x i) (hg : Gl X x) (hdb : (x == ("__debug__" : Str)) = false := by decide) : JE cl W X (.Name x pos) (eC (.str i)) := by
  obtain ⟨t, h⟩ := T.ex
  exact je_glob hg h rfl ⟨t, rfl⟩ hdb
/-- a name of the def -/
theorem jv (i : Nat) {x : Str} {pos : Pos} (hN : X.N[i]? = some x := by rfl) (hv : Vis X.env.scope x := by first | exact Or.inl rfl | exact Or.inr (Or.inl rfl) | exact Or.inr (Or.inr rfl)) (hd : (x == ("__debug__" : Str)) = false := by decide)
    (hcd : (x == ("__classdict__" : Str)) = false := by decide) : JE cl W X (.Name x pos) (eVar i) := je_var hN hv hd hcd
theorem js_raiseX {m : Str} {j : Nat} {p p2 pos pos2 : Pos} (T : ExcAt X.K X.mg cl x) (hc : X.calm = true) (tk : Takes X W) (hg : Gl X x) (hdb : (x == ("__debug__" : Str)) = false := by decide) :
    JS cl W X (.Raise (some (.Call (.Name x p) [.Constant (.str m) j p2] [] pos)) none pos2) (sRaise x) := by
  obtain ⟨C, h1, h2, h3, h4, h5, h6⟩ := T.ex
  exact js_raise hc tk PySem.F.excBase_ValueError h4 h2 h3 (raises_own h5 h6) h1 hg hdb
end
/-- what a row asks of the law's mirror -/
def GoodM (f : MF) : Prop := ∀ (ns : List Int), ns.length ≤ 63 → ∃ h', f [.kls (ns.map Dv.int)] [] = .ok (.bl true) h'
theorem good_sp {K : PySem.W.Frag} {cl : Str → Option Addr} {f : MF} (g : GoodM f) (H : Hp) (a : Addr) (ns : List Int) (hl : ns.length ≤ 63) (hO : Only H) (hS : SqL K H a (ns.map V.int)) : spM K cl 1 f [.ref a] H (fun v _ => v = .bl true) fun _ _ _ => False := by
  have hr : HRel K cl ⟨fun _ => none, []⟩ [] H := ⟨fun i c e => by simp at e, fun i j c d a e => by simp at e, fun _ _ => rfl, fun p m => (by cases m), fun p m => (by cases m)⟩
  have nl : ¬ Live ⟨fun _ => none, []⟩ [] a := fun l => by
    rcases l with ⟨i, c, e, _⟩ | m
    · simp at e
    · cases m
  have rd : RelD K cl ⟨fun _ => none, []⟩ [] H (.kls (ns.map Dv.int)) (.ref a) := by
    refine .kls ?_ (.ints ns)
    rcases hS with q | q
    · exact .inl ⟨q, nl⟩
    · exact .inr q
  obtain ⟨h', e⟩ := g ns hl
  refine ⟨_, _, _, hr, .cons rd .nil, rfl, ?_⟩
  rw [e]
  intro ρ' H' b _ _ r
  exact r.blOf
theorem cx_none {P : Program} {w : World} {H : Hp} {s : Shared} {e : Value} {s' : Shared} (h : L2.CX P w [] H s (fun _ _ _ => False) e s') : False := by
  obtain ⟨_, _, _, _, _, _, _, _, _, _, _, _, z⟩ := h
  exact z
end L2.Mi

/-! MiEnd: how values come to parameters where some are left out; the end of a row. -/
namespace L2.Mi
open PySem PySem.Spec PyProof.Rows
/-- where a parameter's value comes from: written by place, a default by place, a keyword-only default, written by name -/
inductive Plc where
  | a (i : Nat)
  | t (i : Nat)
  | m (i : Nat)
  | k (i : Nat)
def plc1 {α : Type} (us ts ms ws : List α) : Plc → Option α
  | .a i => us[i]?
  | .t i => ts[i]?
  | .m i => ms[i]?
  | .k i => ws[i]?
def plc {α : Type} (pt : List Plc) (us ts ms ws : List α) : List α := pt.filterMap (plc1 us ts ms ws)
theorem vals_get : ∀ {vs : List V} {us : List Value} (i : Nat), Vals vs us → (vs[i]? = none ∧ us[i]? = none) ∨ ∃ v u, vs[i]? = some v ∧ us[i]? = some u ∧ RelV v u
  | _, _, _, .nil => .inl ⟨by simp, by simp⟩
  | _, _, 0, .cons r _ => .inr ⟨_, _, rfl, rfl, r⟩
  | _, _, i + 1, .cons _ t => by simpa using vals_get i t
theorem plc_vals {vs ds mz zs : List V} {us its mv ws : List Value} (h1 : Vals vs us) (h2 : Vals ds its) (h3 : Vals mz mv) (h4 : Vals zs ws) : ∀ pt : List Plc, Vals (plc pt vs ds mz zs) (plc pt us its mv ws)
  | [] => .nil
  | p :: pt => by
    have key : (plc1 vs ds mz zs p = none ∧ plc1 us its mv ws p = none) ∨ ∃ v u, plc1 vs ds mz zs p = some v ∧ plc1 us its mv ws p = some u ∧ RelV v u := by
      cases p with
      | a i => exact vals_get i h1
      | t i => exact vals_get i h2
      | m i => exact vals_get i h3
      | k i => exact vals_get i h4
    have ih := plc_vals h1 h2 h3 h4 pt
    unfold plc at ih ⊢
    rcases key with ⟨e1, e2⟩ | ⟨v, u, e1, e2, r⟩
    · rw [List.filterMap_cons_none e1, List.filterMap_cons_none e2]; exact ih
    · rw [List.filterMap_cons_some e1, List.filterMap_cons_some e2]; exact .cons r ih
section
variable {K : PySem.W.Frag} {cl : Str → Option Addr} {ρ : Rho} {h : MH} {H : Hp}
theorem rels_get {ds : List Dv} {vs : List V} (r : RelDs K cl ρ h H ds vs) (i : Nat) : (ds[i]? = none ∧ vs[i]? = none) ∨ ∃ v u, ds[i]? = some v ∧ vs[i]? = some u ∧ RelD K cl ρ h H v u := by
  cases e : ds[i]? with
  | none =>
    left
    refine ⟨rfl, ?_⟩
    rw [List.getElem?_eq_none_iff] at e ⊢
    rw [← r.length]; exact e
  | some d =>
    obtain ⟨v, h1, h2⟩ := r.get e
    exact .inr ⟨d, v, rfl, h1, h2⟩
theorem plc_rels {vs ds mz zs : List Dv} {us its mv ws : List V} (h1 : RelDs K cl ρ h H vs us) (h2 : RelDs K cl ρ h H ds its) (h3 : RelDs K cl ρ h H mz mv) (h4 : RelDs K cl ρ h H zs ws) : ∀ pt : List Plc, RelDs K cl ρ h H (plc pt vs ds mz zs) (plc pt us its mv ws)
  | [] => .nil
  | p :: pt => by
    have key : (plc1 vs ds mz zs p = none ∧ plc1 us its mv ws p = none) ∨ ∃ v u, plc1 vs ds mz zs p = some v ∧ plc1 us its mv ws p = some u ∧ RelD K cl ρ h H v u := by
      cases p with
      | a i => exact rels_get h1 i
      | t i => exact rels_get h2 i
      | m i => exact rels_get h3 i
      | k i => exact rels_get h4 i
    have ih := plc_rels h1 h2 h3 h4 pt
    unfold plc at ih ⊢
    rcases key with ⟨e1, e2⟩ | ⟨v, u, e1, e2, r⟩
    · rw [List.filterMap_cons_none e1, List.filterMap_cons_none e2]; exact ih
    · rw [List.filterMap_cons_some e1, List.filterMap_cons_some e2]; exact .cons r ih
/-- defaults as values of both kinds -/
def DfR : List Dv → List V → Prop
  | [], [] => True
  | d :: ds, v :: vs => scalV d = some v ∧ DfR ds vs
  | _, _ => False
theorem DfR.rel : ∀ {ds : List Dv} {vs : List V}, DfR ds vs → RelDs K cl ρ h H ds vs
  | [], [], _ => .nil
  | d :: ds, v :: vs, e => by
    obtain ⟨e1, e2⟩ := e
    refine .cons ?_ (DfR.rel e2)
    cases d with
    | non => cases e1; exact .non
    | bl b => cases e1; exact .bl b
    | int b => cases e1; exact .int b
    | str b => cases e1; exact .str b
    | _ => cases e1
theorem krel_plc {n m : Nat} {pt : List Plc} {dT dM : List Dv} {vT vM : List V} (hT : DfR dT vT) (hM : DfR dM vM) : KRel K cl n m (fun vs zs => plc pt vs vT vM zs) (fun ds zs => plc pt ds dT dM zs) :=
  fun _ _ _ _ _ _ _ _ _ r1 r2 => plc_rels r1 hT.rel hM.rel r2 pt
end
section
variable {K : PySem.W.Frag} {x qual : Str} {params : Arguments} {body : List Stmt} {scope : Scope} {dvs : List V} {kws : List (Str × V)} {f : Addr} {fd : FuncData} {ps : List Str}
/-- no defaults are asked for, no default tuple stands -/
theorem kb_plc0 (F : FunD K x qual params body scope [] kws f fd) (n : Nat) (ks : List Str) (pt : List Plc)
    (h : ∀ (kV doc pm : Value) (an : Option Addr) (cdv ct : Value) (us ws : List Value), us.length = n → ws.length = ks.length → bindArgs (PySem.W.fnOf x qual params body scope .none kV doc pm an cdv ct) ⟨us, ks.zip ws⟩ = pure (ps.zip (plc pt us [] [] ws))) :
    ∃ g, KBn K fd ps n ks g (fun vs zs => plc pt vs [] [] zs) := by
  obtain ⟨oc, od, dV, kV, doc, pm, an, cdv, ct, osl, rfl, lk, hcd, hD, hK⟩ := F.ex
  rcases hD with ⟨_, rfl⟩ | ⟨e, _⟩
  · exact ⟨fun us ws => plc pt us [] [] ws, ⟨fun s us ws X h1 h2 => .of_eq (h kV doc pm an cdv ct us ws h1 h2), fun r1 r2 => plc_vals r1 .nil .nil r2 pt⟩⟩
  · exact absurd rfl e
/-- keyword-only defaults fill up, no default tuple stands -/
theorem kb_plcM (F : FunD K x qual params body scope [] kws f fd) (n : Nat) (ks : List Str) (ms : List (Str × V)) (pt : List Plc) (hk : kws ≠ []) (hms : ∀ q ∈ ms, q ∈ kws)
    (h : ∀ (D : Addr) (doc pm : Value) (an : Option Addr) (cdv ct : Value) (us mv ws : List Value), us.length = n → mv.length = ms.length → ws.length = ks.length →
      KwChain D ((ms.map (·.1)).zip mv) (bindArgs (PySem.W.fnOf x qual params body scope .none (.ref D) doc pm an cdv ct) ⟨us, ks.zip ws⟩) (ps.zip (plc pt us [] mv ws))) :
    ∃ g, KBn K fd ps n ks g (fun vs zs => plc pt vs [] (ms.map (·.2)) zs) := by
  obtain ⟨oc, od, dV, kV, doc, pm, an, cdv, ct, osl, rfl, lk, hcd, hD, hK⟩ := F.ex
  rcases hD with ⟨_, rfl⟩ | ⟨e, _⟩
  · rcases hK with e | ⟨D, rfl, hq⟩
    · exact absurd e hk
    · obtain ⟨mv, hl, rk, hks⟩ := kwd_vals (ms := ms) fun q hm => hq q (hms q hm)
      exact ⟨fun us ws => plc pt us [] mv ws, ⟨fun s us ws X l1 l2 => BindsTo.of_looks fun M => KwChain.looks X hks (h D doc pm an cdv ct us mv ws l1 hl l2), fun r1 r2 => plc_vals r1 .nil rk r2 pt⟩⟩
  · exact absurd rfl e
/-- a default tuple stands; no keyword-only defaults are asked for -/
theorem kb_plcT (F : FunD K x qual params body scope dvs kws f fd) (n : Nat) (ks : List Str) (pt : List Plc) (hd : dvs ≠ [])
    (h : ∀ (T : Addr) (kV doc pm : Value) (an : Option Addr) (cdv ct : Value) (us its ws : List Value), us.length = n → its.length = dvs.length → ws.length = ks.length →
      ∃ k, bindArgs (PySem.W.fnOf x qual params body scope (.ref T) kV doc pm an cdv ct) ⟨us, ks.zip ws⟩ = seqItems? (.ref T) >>= k ∧ k (some its.toArray) = pure (ps.zip (plc pt us its [] ws))) :
    ∃ g, KBn K fd ps n ks g (fun vs zs => plc pt vs dvs [] zs) := by
  obtain ⟨oc, od, dV, kV, doc, pm, an, cdv, ct, osl, rfl, lk, hcd, hD, hK⟩ := F.ex
  rcases hD with ⟨e, _⟩ | ⟨_, T, o, its, m, rfl, lT, oT, rT⟩
  · exact absurd e hd
  · refine ⟨fun us ws => plc pt us its [] ws, ⟨fun s us ws X l1 l2 => ?_, fun r1 r2 => plc_vals r1 rT .nil r2 pt⟩⟩
    obtain ⟨k, e1, e2⟩ := h T kV doc pm an cdv ct us its ws l1 rT.length.symm l2
    refine BindsTo.of_looks fun M => ?_
    rw [e1]
    exact looks_items X lT oT (.of_pure e2)
/-- both -/
theorem kb_plcTM (F : FunD K x qual params body scope dvs kws f fd) (n : Nat) (ks : List Str) (ms : List (Str × V)) (pt : List Plc) (hd : dvs ≠ []) (hk : kws ≠ []) (hms : ∀ q ∈ ms, q ∈ kws)
    (h : ∀ (T D : Addr) (doc pm : Value) (an : Option Addr) (cdv ct : Value) (us its mv ws : List Value), us.length = n → its.length = dvs.length → mv.length = ms.length → ws.length = ks.length →
      ∃ k, bindArgs (PySem.W.fnOf x qual params body scope (.ref T) (.ref D) doc pm an cdv ct) ⟨us, ks.zip ws⟩ = seqItems? (.ref T) >>= k ∧ KwChain D ((ms.map (·.1)).zip mv) (k (some its.toArray)) (ps.zip (plc pt us its mv ws))) :
    ∃ g, KBn K fd ps n ks g (fun vs zs => plc pt vs dvs (ms.map (·.2)) zs) := by
  obtain ⟨oc, od, dV, kV, doc, pm, an, cdv, ct, osl, rfl, lk, hcd, hD, hK⟩ := F.ex
  rcases hD with ⟨e, _⟩ | ⟨_, T, o, its, m, rfl, lT, oT, rT⟩
  · exact absurd e hd
  · rcases hK with e | ⟨D, rfl, hq⟩
    · exact absurd e hk
    · obtain ⟨mv, hl, rk, hks⟩ := kwd_vals (ms := ms) fun q hm => hq q (hms q hm)
      refine ⟨fun us ws => plc pt us its mv ws, ⟨fun s us ws X l1 l2 => ?_, fun r1 r2 => plc_vals r1 rT rk r2 pt⟩⟩
      obtain ⟨k, e1, e2⟩ := h T D doc pm an cdv ct us its mv ws l1 rT.length.symm hl l2
      refine BindsTo.of_looks fun M => ?_
      rw [e1]
      exact looks_items X lT oT (KwChain.looks X hks e2)
end
/-! ### the end -/
theorem walk_good {l : PySem.W.OpenLaw} {k : Nat} {q : Program} {loose : List Str} {XP : (Str → Option Value) → Heap → Prop} {YP : World → Heap → Prop} {d : DefRec} {K : Params → PySem.W.Frag} {x : Str} {M : MF}
    (hn : l.most = some 63) (hdf : d.params.defaults = []) (hr : Room k callerA)
    (hY : ∀ (w : World) (h : Heap), YP w h → (K w.params).In h)
    (F : ∀ (w : World) (mg : Str → Option Value) (fa : Addr) (h : Heap), (K w.params).In h → h.Ns mainGlobals mg → mg d.name = some (.ref fa) →
      ∃ fd : FuncData, (∀ (s : Shared) (u : Value), BindsTo s fd ⟨[u], []⟩ [(x, u)]) ∧
        ∀ base : Heap, (K w.params).In base → base.Ns mainGlobals mg → ∃ cl, FnOk l.prog w (K w.params) mg base (L2.CX l.prog w) k fa fd [x] (spM (K w.params) cl 1 M))
    (g : GoodM M) :
    PySem.W.WalkO q loose XP YP l.row.toRowW d [] (fun f vs => PySem.call f vs) := by
  refine L2.walk_of (n := 63) (k := k) (x := x) (K := K) (CX := fun w => L2.CX l.prog w) (sp := fun w vs H Q E => ∀ cl, spM (K w.params) cl 1 M vs H Q E) hn (by decide) hdf hr hY (fun w mg fa h KX G hmg => ?_) (fun w H a ns hl hO hS cl => good_sp g H a ns hl hO hS) fun w H s e s' => cx_none
  obtain ⟨fd, hb, hF⟩ := F w mg fa h KX G hmg
  refine ⟨fd, hb, fun base h1 h2 => ?_⟩
  obtain ⟨cl, hok⟩ := hF base h1 h2
  exact hok.imp fun vs H Q E h => h cl
end L2.Mi

/-! MiWp: what a mirror's run must show, part by part. -/
namespace L2.Mi
open PySem PySem.Spec PyProof.Rows
abbrev QE := Str → List Dv → MH → Prop
@[irreducible] def wR {α : Type} (r : Res α) (Q : α → MH → Prop) (E : QE) : Prop := match r with
  | .ok a h => Q a h
  | .err c xs h => E c xs h
  | .stuck => False
/-- the ends of a statement -/
structure Ew where
  N : MEnv → MH → Prop
  R : Dv → MH → Prop
  B : MEnv → MH → Prop := fun _ _ => False
  C : MEnv → MH → Prop := fun _ _ => False
  E : Str → List Dv → MEnv → MH → Prop := fun _ _ _ _ => False
@[irreducible] def wS (r : RS) (D : Ew) : Prop := match r with
  | .nx τ h => D.N τ h
  | .rt d h => D.R d h
  | .bk τ h => D.B τ h
  | .ct τ h => D.C τ h
  | .err c xs τ h => D.E c xs τ h
  | .stuck => False
abbrev nE : QE := fun _ _ _ => False
section
variable {α β : Type} {Q : α → MH → Prop} {E : QE} {D : Ew} {τ : MEnv} {h h1 : MH} {r : Res α}
theorem wR_ok {a : α} (q : Q a h) : wR (.ok a h) Q E := by with_unfolding_all exact q
theorem wR_err {c : Str} {xs : List Dv} (q : E c xs h) : wR (.err c xs h : Res α) Q E := by with_unfolding_all exact q
theorem wR_of {a : α} (e : r = .ok a h) (q : Q a h) : wR r Q E := by rw [e]; exact wR_ok q
theorem wR_ofE {c : Str} {xs : List Dv} (e : r = .err c xs h) (q : E c xs h) : wR r Q E := by rw [e]; exact wR_err q
theorem wR_iff {a : α} (e : r = .ok a h) : wR r Q E ↔ Q a h := by rw [e]; with_unfolding_all exact Iff.rfl
theorem eq_of_wR {a : α} (w : wR r (fun b h' => b = a ∧ h' = h) nE) : r = .ok a h := by
  cases r with
  | ok b h' => (have w := show (_ ∧ _) from (by with_unfolding_all exact w); obtain ⟨rfl, rfl⟩ := w; rfl)
  | err _ _ _ => with_unfolding_all exact w.elim
  | stuck => with_unfolding_all exact w.elim
theorem ex_of_wR {P : α → MH → Prop} (w : wR r P nE) : ∃ a h', r = .ok a h' ∧ P a h' := by
  cases r with
  | ok b h' => with_unfolding_all exact ⟨b, h', rfl, w⟩
  | err _ _ _ => with_unfolding_all exact w.elim
  | stuck => with_unfolding_all exact w.elim
theorem err_of_wR {c : Str} {xs : List Dv} (w : wR r (fun _ _ => False) (fun c' xs' h' => c' = c ∧ xs' = xs ∧ h' = h)) : r = .err c xs h := by
  cases r with
  | ok b h' => with_unfolding_all exact w.elim
  | err _ _ _ => (have w := show (_ ∧ _ ∧ _) from (by with_unfolding_all exact w); obtain ⟨rfl, rfl, rfl⟩ := w; rfl)
  | stuck => with_unfolding_all exact w.elim
theorem wR_mono {Q' : α → MH → Prop} {E' : QE} (w : wR r Q' E') (hq : ∀ a h, Q' a h → Q a h) (he : ∀ c xs h, E' c xs h → E c xs h) : wR r Q E := by
  cases r with
  | ok b h' => with_unfolding_all exact hq _ _ w
  | err _ _ _ => with_unfolding_all exact he _ _ _ w
  | stuck => with_unfolding_all exact w.elim
theorem wR_bind {Q : β → MH → Prop} {f : α → MH → Res β} (w : wR r (fun a h => wR (f a h) Q E) E) : wR (r.bind f) Q E := by
  cases r with
  | ok b h' => with_unfolding_all exact w
  | err _ _ _ => with_unfolding_all exact w
  | stuck => with_unfolding_all exact w.elim
theorem wS_toS {k : α → MH → RS} (w : wR r (fun a h1 => wS (k a h1) D) (fun c xs h1 => D.E c xs τ h1)) : wS (r.toS τ k) D := by
  cases r with
  | ok b h' => with_unfolding_all exact w
  | err _ _ _ => with_unfolding_all exact w
  | stuck => with_unfolding_all exact w.elim
end
/-! ### expressions -/
section
variable {Q : Dv → MH → Prop} {E : QE} {τ : MEnv} {h : MH}
theorem wE_var {i : Nat} {d : Dv} (e : τ[i]? = some (some d)) (q : Q d h) : wR (eVar i τ h) Q E := by
  unfold eVar
  rw [e]
  with_unfolding_all exact q
theorem wE_c {d : Dv} (q : Q d h) : wR (eC d τ h) Q E := by with_unfolding_all exact q
theorem wE_op2 {f : Dv → Dv → MH → Res Dv} {ma mb : ME} (w : wR (ma τ h) (fun x h1 => wR (mb τ h1) (fun y h2 => wR (f x y h2) Q E) E) E) : wR (eOp2 f ma mb τ h) Q E :=
  wR_bind (wR_mono w (fun _ _ w => wR_bind w) fun _ _ _ e => e)
theorem wE_op1 {f : Dv → MH → Res Dv} {ma : ME} (w : wR (ma τ h) (fun x h1 => wR (f x h1) Q E) E) : wR (eOp1 f ma τ h) Q E := by with_unfolding_all exact wR_bind w
theorem wE_chain {f f' : Dv → Dv → MH → Res Dv} {ma mb mc : ME} (w : wR (ma τ h) (fun x h1 => wR (mb τ h1) (fun y h2 => wR (f x y h2) (fun z h3 => ∃ b, z = .bl b ∧ (b = true → wR (mc τ h3) (fun w h4 => wR (f' y w h4) Q E) E) ∧ (b = false → Q (.bl false) h3)) E) E) E) : wR (eChain f f' ma mb mc τ h) Q E := by
  refine wR_bind (wR_mono w (fun x h1 w => wR_bind (wR_mono w (fun y h2 w => wR_bind (wR_mono w (fun z h3 w => ?_) fun _ _ _ e => e)) fun _ _ _ e => e)) fun _ _ _ e => e)
  obtain ⟨b, rfl, w1, w2⟩ := w
  cases b with
  | true => with_unfolding_all exact wR_bind (w1 rfl)
  | false => with_unfolding_all exact w2 rfl
theorem wE_and {a b : ME} (w : wR (a τ h) (fun c h1 => ∃ k, c = .bl k ∧ (k = true → wR (b τ h1) Q E) ∧ (k = false → Q (.bl false) h1)) E) : wR (eAnd a b τ h) Q E := by
  refine wR_bind (wR_mono w (fun c h1 w => ?_) fun _ _ _ e => e)
  obtain ⟨k, rfl, w1, w2⟩ := w
  cases k with
  | true => with_unfolding_all exact w1 rfl
  | false => with_unfolding_all exact w2 rfl
theorem wE_or {a b : ME} (w : wR (a τ h) (fun c h1 => ∃ k, c = .bl k ∧ (k = false → wR (b τ h1) Q E) ∧ (k = true → Q (.bl true) h1)) E) : wR (eOr a b τ h) Q E := by
  refine wR_bind (wR_mono w (fun c h1 w => ?_) fun _ _ _ e => e)
  obtain ⟨k, rfl, w1, w2⟩ := w
  cases k with
  | false => with_unfolding_all exact w1 rfl
  | true => with_unfolding_all exact w2 rfl
theorem wE_not {a : ME} (w : wR (a τ h) (fun c h1 => ∃ k, c = .bl k ∧ Q (.bl (!k)) h1) E) : wR (eNot a τ h) Q E := by
  refine wR_bind (wR_mono w (fun c h1 w => ?_) fun _ _ _ e => e)
  obtain ⟨k, rfl, w1⟩ := w
  with_unfolding_all exact w1
theorem wE_if {c : MT} {a b : ME} (w : wR (c τ h) (fun k h1 => (k = true → wR (a τ h1) Q E) ∧ (k = false → wR (b τ h1) Q E)) E) : wR (eIf c a b τ h) Q E := by
  refine wR_bind (wR_mono w (fun k h1 w => ?_) fun _ _ _ e => e)
  cases k with
  | true => with_unfolding_all exact w.1 rfl
  | false => with_unfolding_all exact w.2 rfl
theorem wE_ops {f : List Dv → MH → Res Dv} {ms : MA} (w : wR (ms τ h) (fun ds h1 => wR (f ds h1) Q E) E) : wR (eOps f ms τ h) Q E := by with_unfolding_all exact wR_bind w
theorem wE_call {n m : Nat} {gD : List Dv → List Dv → List Dv} {f : MF} {ms mk : MA} (w : wR (ms τ h) (fun ds h1 => wR (mk τ h1) (fun zs h2 => (ds.length = n ∧ zs.length = m) ∧ wR (f (gD ds zs) h2) Q E) E) E) : wR (eCall n m gD f ms mk τ h) Q E := by
  refine wR_bind (wR_mono w (fun ds h1 w => wR_bind (wR_mono w (fun zs h2 w => ?_) fun _ _ _ e => e)) fun _ _ _ e => e)
  rw [if_pos w.1]
  with_unfolding_all exact w.2
theorem wE_mth {g : List Dv → List Dv → Option (Dv × List Dv)} {mo : ME} {ms : MA} (w : wR (mo τ h) (fun d h1 => (∃ xs, rdK h1 d = some xs) ∧ wR (ms τ h1) (fun ds h2 => wR (oCell g d ds h2) Q E) E) E) : wR (eMth g mo ms τ h) Q E := by
  refine wR_bind (wR_mono w (fun d h1 w => ?_) fun _ _ _ e => e)
  obtain ⟨⟨xs, e⟩, w⟩ := w
  show wR (match rdK h1 d with
    | some _ => (ms τ h1).bind fun ds h2 => oCell g d ds h2
    | none => .stuck) Q E
  rw [e]
  exact wR_bind w
theorem wR_cell {g : List Dv → List Dv → Option (Dv × List Dv)} {i : Nat} {xs ys ds : List Dv} {y : Dv} (e1 : h[i]? = some (.lst xs)) (e2 : g xs ds = some (y, ys)) (q : Q y (h.set i (.lst ys))) : wR (oCell g (.obj i) ds h) Q E := by
  unfold oCell cellL
  simp only [e1, e2]
  with_unfolding_all exact q
end
section
variable {Q : List Dv → MH → Prop} {E : QE} {τ : MEnv} {h : MH}
theorem wA_nil (q : Q [] h) : wR (aNil τ h) Q E := by with_unfolding_all exact q
theorem wA_cons {m : ME} {ms : MA} (w : wR (m τ h) (fun x h1 => wR (ms τ h1) (fun xs h2 => Q (x :: xs) h2) E) E) : wR (aCons m ms τ h) Q E :=
  wR_bind (wR_mono w (fun _ _ w => wR_bind (wR_mono w (fun _ _ q => wR_ok q) fun _ _ _ e => e)) fun _ _ _ e => e)
end
/-! ### tests -/
section
variable {Q : Bool → MH → Prop} {E : QE} {τ : MEnv} {h : MH}
theorem wT_test {m : ME} (w : wR (m τ h) (fun d h1 => ∃ b, d = .bl b ∧ Q b h1) E) : wR (mTest m τ h) Q E := by
  refine wR_bind (wR_mono w (fun d h1 w => ?_) fun _ _ _ e => e)
  obtain ⟨b, rfl, q⟩ := w
  with_unfolding_all exact q
theorem wT_and {a b : MT} (w : wR (a τ h) (fun k h1 => (k = true → wR (b τ h1) Q E) ∧ (k = false → Q false h1)) E) : wR (mAnd a b τ h) Q E := by
  refine wR_bind (wR_mono w (fun k h1 w => ?_) fun _ _ _ e => e)
  cases k with
  | true => with_unfolding_all exact w.1 rfl
  | false => with_unfolding_all exact w.2 rfl
theorem wT_or {a b : MT} (w : wR (a τ h) (fun k h1 => (k = false → wR (b τ h1) Q E) ∧ (k = true → Q true h1)) E) : wR (mOr a b τ h) Q E := by
  refine wR_bind (wR_mono w (fun k h1 w => ?_) fun _ _ _ e => e)
  cases k with
  | false => with_unfolding_all exact w.1 rfl
  | true => with_unfolding_all exact w.2 rfl
theorem wT_not {a : MT} (w : wR (a τ h) (fun k h1 => Q (!k) h1) E) : wR (mNot a τ h) Q E := by with_unfolding_all exact wR_bind w
theorem wT_yes (q : Q true h) : wR (mYes τ h) Q E := by with_unfolding_all exact q
end
/-! ### slices -/
section
variable {E : QE} {τ : MEnv} {h : MH}
theorem wO_none {Q : Option Int → MH → Prop} (q : Q none h) : wR (mNoPart τ h) Q E := by with_unfolding_all exact q
theorem wO_some {Q : Option Int → MH → Prop} {m : ME} (w : wR (m τ h) (fun d h1 => ∃ i, d = .int i ∧ Q (some i) h1) E) : wR (mPart m τ h) Q E := by
  refine wR_bind (wR_mono w (fun d h1 w => ?_) fun _ _ _ e => e)
  obtain ⟨b, rfl, q⟩ := w
  with_unfolding_all exact q
theorem wE_sl {Q : Dv → MH → Prop} {m : ME} {lo hi : MO} (w : wR (m τ h) (fun d h1 => wR (lo τ h1) (fun l h2 => wR (hi τ h2) (fun u h3 => wR (oSl d l u h3) Q E) E) E) E) : wR (eSl m lo hi τ h) Q E :=
  wR_bind (wR_mono w (fun _ _ w => wR_bind (wR_mono w (fun _ _ w => wR_bind w) fun _ _ _ e => e)) fun _ _ _ e => e)
end
/-! ### what is walked -/
section
variable {Q : List Dv × Gd → MH → Prop} {E : QE} {τ : MEnv} {h : MH}
theorem wI_val {m : ME} (w : wR (m τ h) (fun d h1 => wR (asIt d h1) Q E) E) : wR (iVal m τ h) Q E := by with_unfolding_all exact wR_bind w
theorem wI_range1 {ms : MA} (w : wR (ms τ h) (fun ds h1 => ∃ j, ds = [.int j] ∧ cRng j = true ∧ Q (rangeD 0 j, .free) h1) E) : wR (iRange1 ms τ h) Q E := by
  refine wR_bind (wR_mono w (fun d h1 w => ?_) fun _ _ _ e => e)
  obtain ⟨b, rfl, c, q⟩ := w
  show wR (if cRng b = true then _ else _) Q E
  rw [if_pos c]
  with_unfolding_all exact q
theorem wI_range2 {ms : MA} (w : wR (ms τ h) (fun ds h1 => ∃ i j, ds = [.int i, .int j] ∧ cRng i = true ∧ cRng j = true ∧ Q (rangeD i j, .free) h1) E) : wR (iRange2 ms τ h) Q E := by
  refine wR_bind (wR_mono w (fun d h1 w => ?_) fun _ _ _ e => e)
  obtain ⟨a, b, rfl, c1, c2, q⟩ := w
  show wR (if (cRng a && cRng b) = true then _ else _) Q E
  rw [c1, c2, if_pos (by rfl)]
  with_unfolding_all exact q
end
/-! ### statements -/
section
variable {D : Ew} {τ : MEnv} {h : MH}
theorem wS_nil (q : D.N τ h) : wS (sNil τ h) D := by with_unfolding_all exact q
theorem wS_seq {a b : MS} (w : wS (a τ h) { D with N := by with_unfolding_all exact fun τ1 h1 => wS (b τ1 h1) D }) : wS (sSeq a b τ h) D := by
  unfold sSeq
  cases e : a τ h with
  | nx τ1 h1 => rw [e] at w; with_unfolding_all exact w
  | rt d h1 => rw [e] at w; with_unfolding_all exact w
  | bk τ1 h1 => rw [e] at w; with_unfolding_all exact w
  | ct τ1 h1 => rw [e] at w; with_unfolding_all exact w
  | err c xs τ1 h1 => rw [e] at w; with_unfolding_all exact w
  | stuck => rw [e] at w; with_unfolding_all exact w
theorem wS_set {i : Nat} {m : ME} (w : wR (m τ h) (fun d h1 => D.N (τ.set i (some d)) h1) (fun c xs h1 => D.E c xs τ h1)) : wS (sSet i m τ h) D := by with_unfolding_all exact wS_toS w
theorem wS_expr {m : ME} (w : wR (m τ h) (fun _ h1 => D.N τ h1) (fun c xs h1 => D.E c xs τ h1)) : wS (sExpr m τ h) D := by with_unfolding_all exact wS_toS w
theorem wS_ret {m : ME} (w : wR (m τ h) (fun d h1 => D.R d h1) (fun c xs h1 => D.E c xs τ h1)) : wS (sRet m τ h) D := by with_unfolding_all exact wS_toS w
theorem wS_retF {m : ME} (w : wR (m τ h) (fun d h1 => D.R (frzD d h1).1 (frzD d h1).2) (fun c xs h1 => D.E c xs τ h1)) : wS (sRetF m τ h) D := by with_unfolding_all exact wS_toS w
theorem wS_retN (w : D.R .non h) : wS (sRetN τ h) D := by with_unfolding_all exact w
theorem wS_raise {c : Str} (w : D.E c [] τ h) : wS (sRaise c τ h) D := by with_unfolding_all exact w
theorem wS_if {c : MT} {a b : MS} (w : wR (c τ h) (fun k h1 => (k = true → wS (a τ h1) D) ∧ (k = false → wS (b τ h1) D)) (fun c xs h1 => D.E c xs τ h1)) : wS (sIf c a b τ h) D := by
  refine wS_toS (wR_mono w (fun k h1 w => ?_) fun _ _ _ e => e)
  cases k with
  | true => with_unfolding_all exact w.1 rfl
  | false => with_unfolding_all exact w.2 rfl
theorem wS_asg {m : ME} {g : MG} (w : wR (m τ h) (fun d h1 => ∃ τ1, g d τ = some τ1 ∧ D.N τ1 h1) (fun c xs h1 => D.E c xs τ h1)) : wS (sAsg m g τ h) D := by
  refine wS_toS (wR_mono w (fun k h1 w => ?_) fun _ _ _ e => e)
  obtain ⟨τ1, e, w⟩ := w
  show wS (match g k τ with
    | some τ1 => .nx τ1 h1
    | none => .stuck) D
  rw [e]
  with_unfolding_all exact w
theorem wS_par {i j : Nat} {ms : MA} (w : wR (ms τ h) (fun ds h1 => ∃ d e, ds = [d, e] ∧ D.N ((τ.set i (some d)).set j (some e)) h1) (fun c xs h1 => D.E c xs τ h1)) : wS (sPar i j ms τ h) D := by
  refine wS_toS (wR_mono w (fun k h1 w => ?_) fun _ _ _ e => e)
  obtain ⟨d, e, rfl, w⟩ := w
  with_unfolding_all exact w
theorem wS_aug {i : Nat} {x : Dv} {f : Dv → Dv → MH → Res Dv} {m : ME} (e : τ[i]? = some (some x)) (w : wR (m τ h) (fun y h1 => wR (f x y h1) (fun z h2 => D.N (τ.set i (some z)) h2) (fun c xs h1 => D.E c xs τ h1)) (fun c xs h1 => D.E c xs τ h1)) : wS (sAug i f m τ h) D := by
  unfold sAug
  rw [e]
  exact wS_toS (wR_mono w (fun _ _ w => wS_toS (wR_mono w (fun _ _ q => by with_unfolding_all exact q) fun _ _ _ e => e)) fun _ _ _ e => e)
def Ex4 (o : Option MH) (P : MH → Prop) : Prop := ∃ h4, o = some h4 ∧ P h4
theorem wX {o : Option MH} {P : MH → Prop} (h4 : MH) (e : o = some h4) (p : P h4) : Ex4 o P := ⟨h4, e, p⟩
theorem wS_setix {m mo mi : ME} {f : Dv → Dv → Dv → MH → Option MH} (w : wR (m τ h) (fun v h1 => wR (mo τ h1) (fun o h2 => wR (mi τ h2) (fun i h3 => Ex4 (f o i v h3) fun h4 => D.N τ h4) (fun c xs h1 => D.E c xs τ h1)) (fun c xs h1 => D.E c xs τ h1)) (fun c xs h1 => D.E c xs τ h1)) :
    wS (sSetIx m mo mi f τ h) D := by
  refine wS_toS (wR_mono w (fun v h1 w => wS_toS (wR_mono w (fun o h2 w => wS_toS (wR_mono w (fun i h3 w => ?_) fun _ _ _ e => e)) fun _ _ _ e => e)) fun _ _ _ e => e)
  obtain ⟨h4, e, w⟩ := w
  show wS (match f o i v h3 with
    | some h4 => .nx τ h4
    | none => .stuck) D
  rw [e]
  with_unfolding_all exact w
/-! ### loops -/
theorem wS_mono {r : RS} {D D' : Ew} (w : wS r D) (hn : ∀ τ h, D.N τ h → D'.N τ h) (hr : ∀ d h, D.R d h → D'.R d h) (hb : ∀ τ h, D.B τ h → D'.B τ h) (hc : ∀ τ h, D.C τ h → D'.C τ h) (he : ∀ c xs τ h, D.E c xs τ h → D'.E c xs τ h) : wS r D' := by
  cases r with
  | nx τ1 h1 => with_unfolding_all exact hn _ _ w
  | rt d h1 => with_unfolding_all exact hr _ _ w
  | bk τ1 h1 => with_unfolding_all exact hb _ _ w
  | ct τ1 h1 => with_unfolding_all exact hc _ _ w
  | err c xs τ1 h1 => with_unfolding_all exact he _ _ _ _ w
  | stuck => with_unfolding_all exact w
theorem wS_for {mi : MI} {mg : MG} {body : MS} (w : wR (mi τ h) (fun p h1 => wS (forL p.2 p.1 mg body p.1 τ h1) D) (fun c xs h1 => D.E c xs τ h1)) : wS (sFor mi mg body τ h) D := by with_unfolding_all exact wS_toS w
theorem forL_nil {g : Gd} {all : List Dv} {mg : MG} {body : MS} (hg : g.ok all h = true) (q : D.N τ h) : wS (forL g all mg body [] τ h) D := by
  unfold forL
  rw [if_pos hg]
  with_unfolding_all exact q
theorem forL_cons {g : Gd} {all ds : List Dv} {d : Dv} {mg : MG} {body : MS} {τ1 : MEnv} (hg : g.ok all h = true) (hm : mg d τ = some τ1)
    (w : wS (body τ1 h) { D with N := fun τ2 h2 => wS (forL g all mg body ds τ2 h2) D, C := fun τ2 h2 => wS (forL g all mg body ds τ2 h2) D, B := D.N }) : wS (forL g all mg body (d :: ds) τ h) D := by
  unfold forL
  rw [if_pos hg]
  simp only [hm]
  cases e : body τ1 h with
  | nx τ1 h1 => rw [e] at w; with_unfolding_all exact w
  | rt d h1 => rw [e] at w; with_unfolding_all exact w
  | bk τ1 h1 => rw [e] at w; with_unfolding_all exact w
  | ct τ1 h1 => rw [e] at w; with_unfolding_all exact w
  | err c xs τ1 h1 => rw [e] at w; with_unfolding_all exact w
  | stuck => rw [e] at w; with_unfolding_all exact w
/-- by an invariant over the items still to come -/
theorem forL_inv {g : Gd} {all : List Dv} {mg : MG} {body : MS} (I : List Dv → MEnv → MH → Prop) : ∀ (ds : List Dv) {τ : MEnv} {h : MH}, I ds τ h →
    (∀ d ds τ h, I (d :: ds) τ h → g.ok all h = true ∧ ∃ τ1, mg d τ = some τ1 ∧ wS (body τ1 h) { D with N := I ds, C := I ds, B := D.N }) →
    (∀ τ h, I [] τ h → g.ok all h = true ∧ D.N τ h) → wS (forL g all mg body ds τ h) D
  | [], _, _, h0, _, hd => forL_nil (hd _ _ h0).1 (hd _ _ h0).2
  | d :: ds, _, _, h0, hs, hd => by
    obtain ⟨hg, τ1, e, w⟩ := hs d ds _ _ h0
    exact forL_cons hg e (wS_mono w (fun τ h i => forL_inv I ds i hs hd) (fun _ _ q => q) (fun _ _ q => q) (fun τ h i => forL_inv I ds i hs hd) fun _ _ _ _ q => q)
theorem wS_while {c : MT} {body : MS} (I : Nat → MEnv → MH → Prop) (h0 : ∃ n, n < manyTurns ∧ I n τ h)
    (hs : ∀ n τ h, I n τ h → wR (c τ h) (fun k h1 => (k = true → wS (body τ h1) { D with N := fun τ2 h2 => ∃ m, m < n ∧ I m τ2 h2, C := fun τ2 h2 => ∃ m, m < n ∧ I m τ2 h2, B := D.N }) ∧ (k = false → D.N τ h1)) (fun c xs h1 => D.E c xs τ h1)) : wS (sWhile c body τ h) D := by
  obtain ⟨n, hn, h0⟩ := h0
  have key : ∀ (m n : Nat) (τ : MEnv) (h : MH), n < m → I n τ h → wS (whileN c body m τ h) D := by
    intro m
    induction m with
    | zero => intro n τ h hlt; omega
    | succ m ih =>
      intro n τ h hlt hi
      unfold whileN
      refine wS_toS (wR_mono (hs n τ h hi) (fun k h1 w => ?_) fun _ _ _ e => e)
      cases k with
      | false => rw [if_neg Bool.false_ne_true]; with_unfolding_all exact w.2 rfl
      | true =>
        rw [if_pos rfl]
        have w := w.1 rfl
        cases e : body τ h1 with
        | nx τ1 h1 => rw [e] at w; obtain ⟨j, hj, q⟩ := (show ∃ m, m < n ∧ I m τ1 h1 by with_unfolding_all exact w); exact ih j _ _ (by omega) q
        | rt d h1 => rw [e] at w; with_unfolding_all exact w
        | bk τ1 h1 => rw [e] at w; with_unfolding_all exact w
        | ct τ1 h1 => rw [e] at w; obtain ⟨j, hj, q⟩ := (show ∃ m, m < n ∧ I m τ1 h1 by with_unfolding_all exact w); exact ih j _ _ (by omega) q
        | err c xs τ1 h1 => rw [e] at w; with_unfolding_all exact w
        | stuck => rw [e] at w; with_unfolding_all exact w
  exact key _ n τ h hn h0
end
/-! ### comprehensions -/
section
variable {Q : Dv → MH → Prop} {E : QE} {τ : MEnv} {h : MH} {g : Gd} {all : List Dv} {mg : MG} {tt : MT} {te : ME}
theorem wE_lc {mi : MI} {vs : List Nat} (w : wR (mi τ h) (fun p h1 => wR (lcL p.2 p.1 mg tt te (wipeD τ vs) p.1 [] h1) Q E) E) : wR (eLc mi mg tt te vs τ h) Q E := by with_unfolding_all exact wR_bind w
theorem lcL_nil {acc : List Dv} (hg : g.ok all h = true) (q : Q (.lst acc) h) : wR (lcL g all mg tt te τ [] acc h) Q E := by
  unfold lcL
  rw [if_pos hg]
  with_unfolding_all exact q
/-- by an invariant over the items still to come, what is made -/
theorem lcL_inv (I : List Dv → List Dv → MH → Prop) : ∀ (ds : List Dv) {acc : List Dv} {h : MH}, I ds acc h →
    (∀ d ds acc h, I (d :: ds) acc h → g.ok all h = true ∧ ∃ τ1, mg d τ = some τ1 ∧ wR (tt τ1 h) (fun k h1 => (k = true → wR (te τ1 h1) (fun y h2 => acc.length + 1 ≤ 16777216 ∧ I ds (acc ++ [y]) h2) nE) ∧ (k = false → I ds acc h1)) nE) →
    (∀ acc h, I [] acc h → g.ok all h = true ∧ Q (.lst acc) h) → wR (lcL g all mg tt te τ ds acc h) Q E
  | [], _, _, h0, _, hd => lcL_nil (hd _ _ h0).1 (hd _ _ h0).2
  | d :: ds, acc, h, h0, hs, hd => by
    obtain ⟨hg, τ1, e, w⟩ := hs d ds _ _ h0
    unfold lcL
    rw [if_pos hg]
    simp only [e]
    cases e1 : tt τ1 h with
    | stuck => rw [e1] at w; with_unfolding_all exact w.elim
    | err c xs h1 => rw [e1] at w; with_unfolding_all exact w.elim
    | ok k h1 =>
      rw [e1] at w
      have w : (k = true → wR (te τ1 h1) (fun y h2 => acc.length + 1 ≤ 16777216 ∧ I ds (acc ++ [y]) h2) nE) ∧ (k = false → I ds acc h1) := by with_unfolding_all exact w
      cases k with
      | false => exact lcL_inv I ds (w.2 rfl) hs hd
      | true =>
        have w := w.1 rfl
        simp only
        cases e2 : te τ1 h1 with
        | stuck => rw [e2] at w; with_unfolding_all exact w.elim
        | err c xs h1 => rw [e2] at w; with_unfolding_all exact w.elim
        | ok y h2 =>
          rw [e2] at w
          obtain ⟨wl, w⟩ := (show acc.length + 1 ≤ 16777216 ∧ I ds (acc ++ [y]) h2 by with_unfolding_all exact w)
          have hl : lineB (acc.length + 1) = true := decide_eq_true wl
          simp only [if_pos hl]
          exact lcL_inv I ds w hs hd
/-- nothing changes: those that pass, each by a function -/
theorem lcL_pure (p : Dv → Bool) (f : Dv → Dv) (hg : g.ok all h = true) : ∀ (ds acc : List Dv), acc.length + ds.length ≤ 16777216 →
    (∀ d ∈ ds, ∃ τ1, mg d τ = some τ1 ∧ tt τ1 h = .ok (p d) h ∧ (p d = true → te τ1 h = .ok (f d) h)) →
    lcL g all mg tt te τ ds acc h = .ok (.lst (acc ++ (ds.filter p).map f)) h
  | [], acc, _, _ => by
    unfold lcL
    rw [if_pos hg]
    simp
  | d :: ds, acc, hl, hd => by
    obtain ⟨τ1, e, e1, e2⟩ := hd d List.mem_cons_self
    unfold lcL
    rw [if_pos hg]
    simp only [e, e1]
    rw [List.length_cons] at hl
    cases hp : p d with
    | false =>
      simp only
      rw [lcL_pure p f hg ds acc (by omega) fun x hx => hd x (List.mem_cons_of_mem _ hx)]
      rw [List.filter_cons_of_neg (by rw [hp]; exact Bool.false_ne_true)]
    | true =>
      simp only [e2 hp]
      have hl' : lineB (acc.length + 1) = true := decide_eq_true (by omega)
      rw [if_pos hl', lcL_pure p f hg ds (acc ++ [f d]) (by rw [List.length_append, List.length_singleton]; omega) fun x hx => hd x (List.mem_cons_of_mem _ hx)]
      rw [List.filter_cons_of_pos hp, List.map_cons, List.append_assoc]
      rfl
end
/-! ### defs -/
theorem wF {n N : Nat} {b : MS} {ds : List Dv} {h : MH} {Q : Dv → MH → Prop} {E : QE} (hl : ds.length = n) (w : wS (b (ds.map some ++ List.replicate (N - n) none) h) { N := fun _ h => Q .non h, R := Q, E := by with_unfolding_all exact fun c xs _ h => E c xs h }) : wR (fnM n N b ds h) Q E := by
  unfold fnM
  rw [if_pos hl]
  cases e : b (ds.map some ++ List.replicate (N - n) none) h with
  | nx τ1 h1 => rw [e] at w; with_unfolding_all exact w
  | rt d h1 => rw [e] at w; with_unfolding_all exact w
  | bk τ1 h1 => rw [e] at w; with_unfolding_all exact w.elim
  | ct τ1 h1 => rw [e] at w; with_unfolding_all exact w.elim
  | err c xs τ1 h1 => rw [e] at w; with_unfolding_all exact w
  | stuck => rw [e] at w; with_unfolding_all exact w.elim
end L2.Mi

/-! MiVal: what the operations give. -/
namespace L2.Mi
open PySem PySem.Spec PyProof.Rows
section
variable {Q : Dv → MH → Prop} {E : QE} {h : MH} {i j : Int}
theorem wV_add (q : Q (.int (i + j)) h) : wR (oAdd (.int i) (.int j) h) Q E := by with_unfolding_all exact q
theorem wV_sub (q : Q (.int (i - j)) h) : wR (oSub (.int i) (.int j) h) Q E := by with_unfolding_all exact q
theorem wV_neg (q : Q (.int (-i)) h) : wR (oNeg (.int i) h) Q E := by with_unfolding_all exact q
theorem wV_lt (q : Q (.bl (decide (i < j))) h) : wR (oLt (.int i) (.int j) h) Q E := by with_unfolding_all exact q
theorem wV_le (q : Q (.bl (decide (i ≤ j))) h) : wR (oLe (.int i) (.int j) h) Q E := by with_unfolding_all exact q
theorem wV_gt (q : Q (.bl (decide (j < i))) h) : wR (oGt (.int i) (.int j) h) Q E := by with_unfolding_all exact q
theorem wV_ge (q : Q (.bl (decide (j ≤ i))) h) : wR (oGe (.int i) (.int j) h) Q E := by with_unfolding_all exact q
theorem oMul_int (c : (-18446744073709551616 < i ∧ i < 18446744073709551616) ∨ (-18446744073709551616 < j ∧ j < 18446744073709551616)) : oMul (.int i) (.int j) h = .ok (.int (i * j)) h := by
  show (if cMul i j = true then Res.ok (Dv.int (i * j)) h else .stuck) = _
  rw [if_pos (show cMul i j = true from decide_eq_true (by omega))]
theorem wV_mul (c : (-18446744073709551616 < i ∧ i < 18446744073709551616) ∨ (-18446744073709551616 < j ∧ j < 18446744073709551616)) (q : Q (.int (i * j)) h) : wR (oMul (.int i) (.int j) h) Q E := wR_of (oMul_int c) q
theorem oMod_int (c : 0 < j) : oMod (.int i) (.int j) h = .ok (.int (i % j)) h := by
  show (if decide (j ≠ 0) = true then Res.ok (Dv.int (i.fmod j)) h else .stuck) = _
  rw [if_pos (decide_eq_true (by omega)), Int.fmod_eq_emod_of_nonneg _ (by omega)]
theorem wV_mod (c : 0 < j) (q : Q (.int (i % j)) h) : wR (oMod (.int i) (.int j) h) Q E := wR_of (oMod_int c) q
theorem oDiv_int (c : 0 < j ∧ j < 1073741824) : oDiv (.int i) (.int j) h = .ok (.int (i / j)) h := by
  show (if cDiv i j = true then Res.ok (Dv.int (i.fdiv j)) h else .stuck) = _
  rw [if_pos (show cDiv i j = true from decide_eq_true (by omega)), Int.fdiv_eq_ediv_of_nonneg _ (by omega)]
theorem wV_div (c : 0 < j ∧ j < 1073741824) (q : Q (.int (i / j)) h) : wR (oDiv (.int i) (.int j) h) Q E := wR_of (oDiv_int c) q
theorem oPow_int (c : (0 ≤ j ∧ j ≤ 1000000) ∧ i.natAbs < 18446744073709551616) : oPow (.int i) (.int j) h = .ok (.int (i ^ j.toNat)) h := by
  show (if cPow i j = true then Res.ok (Dv.int (i ^ j.toNat)) h else .stuck) = _
  rw [if_pos (show cPow i j = true from decide_eq_true (by omega))]
theorem wV_pow (c : (0 ≤ j ∧ j ≤ 1000000) ∧ i.natAbs < 18446744073709551616) (q : Q (.int (i ^ j.toNat)) h) : wR (oPow (.int i) (.int j) h) Q E := wR_of (oPow_int c) q
/-! ### ==, in -/
theorem optAll_map {α β : Type} {f : α → Option β} {g : α → β} : ∀ {xs : List α}, (∀ x ∈ xs, f x = some (g x)) → optAll (xs.map f) = some (xs.map g)
  | [], _ => rfl
  | x :: xs, hf => by
    rw [List.map_cons, hf x List.mem_cons_self]
    show (optAll (xs.map f)).map (g x :: ·) = _
    rw [optAll_map fun y hy => hf y (List.mem_cons_of_mem _ hy)]
    rfl
theorem optAll_ints (n : Nat) (h : MH) (xs : List Int) : optAll ((xs.map Dv.int).map (pyOf h n)) = some (xs.map PyData.int) := by
  rw [List.map_map]
  exact optAll_map fun x _ => by show pyOf h n (Dv.int x) = _; unfold pyOf; rfl
theorem eqv_int (a b : Int) : PyData.eqv (.int a) (.int b) = decide (a = b) := by
  simp only [PyData.eqv]
  rw [Bool.eq_iff_iff]
  simp
theorem eqvAll_ints : ∀ (xs ys : List Int), PyData.eqvAll (xs.map PyData.int) (ys.map PyData.int) = decide (xs = ys)
  | [], [] => by simp [PyData.eqvAll]
  | [], _ :: _ => by simp [PyData.eqvAll]
  | _ :: _, [] => by simp [PyData.eqvAll]
  | x :: xs, y :: ys => by
    simp only [List.map_cons, PyData.eqvAll, eqv_int, eqvAll_ints xs ys]
    by_cases h1 : x = y <;> by_cases h2 : xs = ys <;> simp [h1, h2]
theorem pyEq_int : pyEq h (.int i) (.int j) = some (decide (i = j)) := by
  unfold pyEq pyOf
  simp only [eqv_int]
/-- the data of what has int items -/
theorem pyOf_ints {d : Dv} {xs : List Int} (e : rdK h d = some (xs.map Dv.int)) (n : Nat) : pyOf h (n + 1) d = some (.list (xs.map PyData.int)) := by
  cases d with
  | lst ys =>
    have e' : some ys = some (xs.map Dv.int) := e
    cases e'
    unfold pyOf
    rw [optAll_ints]; rfl
  | kls ys =>
    have e' : some ys = some (xs.map Dv.int) := e
    cases e'
    unfold pyOf
    rw [optAll_ints]; rfl
  | obj k =>
    have e' : (match h[k]? with
      | some (.lst xs) => some xs
      | _ => none) = some (xs.map Dv.int) := e
    have ep : pyOf h (n + 1) (.obj k) = match h[k]? with
      | some (.lst xs) => (optAll (xs.map (pyOf h n))).map PyData.list
      | _ => none := by with_unfolding_all rfl
    rw [ep]
    cases hk : h[k]? with
    | none => rw [hk] at e'; cases e'
    | some c =>
      rw [hk] at e'
      cases c with
      | lst ys =>
        cases e'
        show (optAll ((xs.map Dv.int).map (pyOf h n))).map PyData.list = _
        rw [optAll_ints]; rfl
      | _ => cases e'
  | _ => cases e
theorem pyEq_ints {a b : Dv} {xs ys : List Int} (ea : rdK h a = some (xs.map Dv.int)) (eb : rdK h b = some (ys.map Dv.int)) : pyEq h a b = some (decide (xs = ys)) := by
  unfold pyEq
  rw [pyOf_ints ea, pyOf_ints eb]
  simp only [PyData.eqv, eqvAll_ints]
theorem oEq_of {a b : Dv} {r : Bool} (e : pyEq h a b = some r) : oEq a b h = .ok (.bl r) h := by unfold oEq; rw [e]
theorem oNe_of {a b : Dv} {r : Bool} (e : pyEq h a b = some r) : oNe a b h = .ok (.bl (!r)) h := by unfold oNe; rw [e]
theorem wV_eq (q : Q (.bl (decide (i = j))) h) : wR (oEq (.int i) (.int j) h) Q E := wR_of (oEq_of pyEq_int) q
theorem wV_ne (q : Q (.bl (!decide (i = j))) h) : wR (oNe (.int i) (.int j) h) Q E := wR_of (oNe_of pyEq_int) q
theorem oEq_ints {a b : Dv} {xs ys : List Int} (ea : rdK h a = some (xs.map Dv.int)) (eb : rdK h b = some (ys.map Dv.int)) : oEq a b h = .ok (.bl (decide (xs = ys))) h := oEq_of (pyEq_ints ea eb)
theorem oNe_ints {a b : Dv} {xs ys : List Int} (ea : rdK h a = some (xs.map Dv.int)) (eb : rdK h b = some (ys.map Dv.int)) : oNe a b h = .ok (.bl (!decide (xs = ys))) h := oNe_of (pyEq_ints ea eb)
theorem any_ints (xs : List Int) (i : Int) : ((xs.map PyData.int).any fun z => PyData.eqv z (.int i)) = decide (i ∈ xs) := by
  induction xs with
  | nil => simp
  | cons x xs ih =>
    rw [List.map_cons, List.any_cons, ih, eqv_int]
    by_cases h1 : x = i
    · subst h1; simp
    · have h2 : ¬ i = x := fun z => h1 z.symm
      simp [h1, h2]
theorem pyIn_ints {b : Dv} {xs : List Int} (e : rdK h b = some (xs.map Dv.int)) : pyIn h (.int i) b = some (decide (i ∈ xs)) := by
  have e1 : pyOf h 12 (.int i) = some (.int i) := by unfold pyOf; rfl
  have e2 := pyOf_ints e 11
  cases b with
  | lst ys => unfold pyIn; simp only [e1, e2, any_ints]
  | kls ys => unfold pyIn; simp only [e1, e2, any_ints]
  | obj k => unfold pyIn; simp only [e1, e2, any_ints]
  | _ => cases e
theorem oIn_ints {b : Dv} {xs : List Int} (e : rdK h b = some (xs.map Dv.int)) : oIn (.int i) b h = .ok (.bl (decide (i ∈ xs))) h := by unfold oIn; rw [pyIn_ints e]
theorem oNotIn_ints {b : Dv} {xs : List Int} (e : rdK h b = some (xs.map Dv.int)) : oNotIn (.int i) b h = .ok (.bl (!decide (i ∈ xs))) h := by unfold oNotIn; rw [pyIn_ints e]
/-! ### items, lengths -/
theorem atI_ok {xs : List Dv} {k : Int} (h1 : 0 ≤ k) (h2 : k < xs.length) : atI xs k = xs[k.toNat]? := by
  obtain ⟨n, rfl⟩ := Int.eq_ofNat_of_zero_le h1
  unfold atI
  have : ixN xs.length (n : Int) = some n := by
    unfold ixN
    simp
    omega
  rw [this]
  simp
theorem oIx_of {d x : Dv} {xs : List Dv} {k : Int} (e : rdS h d = some xs) (h1 : 0 ≤ k) (h2 : xs[k.toNat]? = some x) : oIx d (.int k) h = .ok x h := by
  show (match (rdS h d).bind fun xs => atI xs k with
    | some d => Res.ok d h
    | none => .stuck) = _
  have hl : k.toNat < xs.length := (List.getElem?_eq_some_iff.mp h2).1
  rw [e, Option.bind_some, atI_ok h1 (by omega), h2]
theorem wV_ix {d x : Dv} {xs : List Dv} {k : Int} (e : rdS h d = some xs) (h1 : 0 ≤ k) (h2 : xs[k.toNat]? = some x) (q : Q x h) : wR (oIx d (.int k) h) Q E := wR_of (oIx_of e h1 h2) q
theorem atI_neg {xs : List Dv} (h1 : xs ≠ []) : atI xs (-1) = xs.getLast? := by
  have hl : 0 < xs.length := List.length_pos_iff.mpr h1
  unfold atI
  have : ixN xs.length (-1) = some (xs.length - 1) := by
    unfold ixN
    rw [if_neg (by omega), if_pos (by omega)]
    congr 1
    omega
  rw [this, Option.bind_some, List.getLast?_eq_getElem?]
theorem fLen_of {d : Dv} {xs : List Dv} (e : rdA h d = some xs) : fLen [d] h = .ok (.int xs.length) h := by
  show (match rdA h d with
    | some xs => gLen xs h
    | none => .stuck) = _
  rw [e]; rfl
theorem fList_of {d : Dv} {xs : List Dv} (e : rdA h d = some xs) : fList [d] h = .ok (.lst xs) h := by
  show (match rdA h d with
    | some xs => gLst xs h
    | none => .stuck) = _
  rw [e]; rfl
theorem fListM_of {d : Dv} {xs : List Dv} (e : rdA h d = some xs) : fListM [d] h = .ok (.obj h.length) (h ++ [.lst xs]) := by
  show (match rdA h d with
    | some xs => gLstM xs h
    | none => .stuck) = _
  rw [e]; rfl
theorem fTuple_of {d : Dv} {xs : List Dv} (e : rdA h d = some xs) : fTuple [d] h = .ok (.tup xs) h := by
  show (match rdA h d with
    | some xs => gTup xs h
    | none => .stuck) = _
  rw [e]; rfl
theorem oItems_ints {g : List Int → MH → Res Dv} {d : Dv} {xs : List Int} (e : rdK h d = some (xs.map Dv.int)) : oItems rdK (onInts g) [d] h = g xs h := by
  show (match rdK h d with
    | some xs => onInts g xs h
    | none => .stuck) = _
  rw [e]
  show onInts g (xs.map Dv.int) h = _
  unfold onInts
  rw [intsOf_map]
theorem oItems_bls {g : List Bool → MH → Res Dv} {d : Dv} {xs : List Bool} (e : rdK h d = some (xs.map Dv.bl)) : oItems rdK (onBls g) [d] h = g xs h := by
  show (match rdK h d with
    | some xs => onBls g xs h
    | none => .stuck) = _
  rw [e]
  show onBls g (xs.map Dv.bl) h = _
  unfold onBls
  rw [blsOf_map]
theorem fSum_of {d : Dv} {xs : List Int} (e : rdK h d = some (xs.map Dv.int)) : fSum [d] h = .ok (.int xs.sum) h := oItems_ints e
theorem fMax_of {d : Dv} {xs : List Int} (e : rdK h d = some (xs.map Dv.int)) (hn : xs ≠ []) : fMax [d] h = .ok (.int (maxL xs)) h := by
  have e0 : fMax [d] h = oItems rdK (onInts gMax) [d] h := by unfold fMax; split <;> first | rfl | (rename_i z; cases z)
  refine e0.trans ((oItems_ints (g := gMax) e).trans ?_)
  unfold gMax
  rw [if_neg (by cases xs with | nil => exact absurd rfl hn | cons _ _ => simp)]
theorem fMin_of {d : Dv} {xs : List Int} (e : rdK h d = some (xs.map Dv.int)) (hn : xs ≠ []) : fMin [d] h = .ok (.int (minL xs)) h := by
  have e0 : fMin [d] h = oItems rdK (onInts gMin) [d] h := by unfold fMin; split <;> first | rfl | (rename_i z; cases z)
  refine e0.trans ((oItems_ints (g := gMin) e).trans ?_)
  unfold gMin
  rw [if_neg (by cases xs with | nil => exact absurd rfl hn | cons _ _ => simp)]
theorem fSorted_of {d : Dv} {xs : List Int} (e : rdK h d = some (xs.map Dv.int)) (hn : xs.length < 64) : fSorted [d] h = .ok (.lst ((sortI xs).map Dv.int)) h := by
  refine (oItems_ints (g := gSorted) e).trans ?_
  unfold gSorted
  rw [if_pos (decide_eq_true hn)]
theorem fAll_of {d : Dv} {xs : List Bool} (e : rdK h d = some (xs.map Dv.bl)) : fAll [d] h = .ok (.bl (xs.all id)) h := oItems_bls e
theorem fAny_of {d : Dv} {xs : List Bool} (e : rdK h d = some (xs.map Dv.bl)) : fAny [d] h = .ok (.bl (xs.any id)) h := oItems_bls e
theorem oAdd_lsts {a b : Dv} {xs ys : List Dv} (ea : rdL h a = some xs) (eb : rdL h b = some ys) (hl : xs.length + ys.length ≤ 16777216) : oAdd a b h = .ok (.lst (xs ++ ys)) h := by
  unfold oAdd
  split
  · cases ea
  · rw [ea, eb]
    simp only
    rw [if_pos (show lineB _ = true from decide_eq_true hl)]
theorem gInsert_of {xs : List Dv} {i : Int} {y : Dv} (h1 : 0 ≤ i) (h2 : i < 9223372036854775808) (hl : xs.length + 1 ≤ 16777216) : gInsert xs [.int i, y] = some (.non, xs.take i.toNat ++ [y] ++ xs.drop i.toNat) := by
  show (if (decide (0 ≤ i ∧ i < 2 ^ 63) && lineB (xs.length + 1)) = true then some (Dv.non, xs.take i.toNat ++ [y] ++ xs.drop i.toNat) else none) = _
  rw [if_pos]
  rw [Bool.and_eq_true]
  exact ⟨decide_eq_true ⟨h1, by omega⟩, decide_eq_true hl⟩
theorem gAppend_of {xs : List Dv} {y : Dv} (hl : xs.length + 1 ≤ 16777216) : gAppend xs [y] = some (.non, xs ++ [y]) := by
  show (if lineB (xs.length + 1) = true then some (Dv.non, xs ++ [y]) else none) = _
  rw [if_pos (show lineB _ = true from decide_eq_true hl)]
/-! ### slices -/
theorem sIx_nat {n d : Nat} {k : Int} (h1 : 0 ≤ k) : HT.sIx n d (some k) = min k.toNat n := by
  unfold HT.sIx
  simp
  omega
theorem oSl_of {d : Dv} {xs : List Dv} {lo hi : Option Int} (e : rdL h d = some xs) : oSl d lo hi h = .ok (.lst (cutD xs lo hi)) h := by
  unfold oSl
  split
  · cases e
  · rw [e]
end
end L2.Mi

/-! MiTry: try with one clause that keeps the exception; isinstance of what was kept; count, index. -/
namespace L2.Mi
open PySem PySem.Spec PyProof.Rows
section
variable {X : Cx} {pins : List (Addr × Obj)} {σ : St} {H : Hp} {s : Shared}
/-- an object that is new since the def began is known from now on -/
theorem Inv.seen {a : Addr} {o : HO} (I : Inv X pins σ H s) (new0 : X.s_0.heap.get? a = none) (hn : H a = none) (nL : X.env.locals ≠ a) (nC : ∀ x c, X.env.cells.lookup x = some c → c ≠ a) (nP : ∀ p ∈ X.pn ++ pins, p.1 ≠ a)
    (good : ObjOk X.prog X.w (upd H a o) s.heap a o) : Inv X pins σ (upd H a o) s where
  ok := I.ok
  os := I.os
  bare := I.bare
  base :=
    ⟨I.base.keep, I.base.slot, fun b u q n hx => (upd_ne (fun z => by rw [z, new0] at q; cases q)).trans (I.base.free b u q n hx), I.base.there,
      fun b xs q => (upd_ne (ne_of_none (I.base.tups b xs q) hn)).trans (I.base.tups b xs q), fun b ob u q => (upd_ne (ne_of_none (I.base.frzs b ob u q) hn)).trans (I.base.frzs b ob u q),
      fun b ps q => let ⟨m, z⟩ := I.base.tbls b ps q; ⟨m, (upd_ne (ne_of_none z hn)).trans z⟩⟩
  loc := I.loc
  cell := I.cell
  free := (upd_ne nL).trans I.free
  freeC := fun x c e => (upd_ne (nC x c e)).trans (I.freeC x c e)
  pin := fun p hp => ⟨(I.pin p hp).1, (upd_ne (nP p hp)).trans (I.pin p hp).2.1, (I.pin p hp).2.2⟩
  hok := I.hok.laidN (fun _ _ e => e) hn good
  len := I.len
theorem excP_ok {P : Program} {w : World} {H : Hp} {h : Heap} {a Ca : Addr} {d : Option Addr} {oe : Obj} {vs : Array Value} (e : h.get? a = some oe) (z : Zc (.ref Ca) d oe) (hd : oe.data = .fields vs) : ObjOk P w H h a (.ext (ExcP a Ca d)) :=
  ⟨⟨oe, e, z, vs, hd⟩, ⟨oe, e⟩, fun _ _ ⟨ob, q, z', r⟩ k => ⟨ob, k ob q, z', r⟩⟩
end
/-- what the clause wishes of what the body raises -/
def wTr (K : PySem.W.Frag) (c : Value) (i : Nat) (ts : TS) (Wout : WX) (D : Ends) : WX := fun cls d σ H =>
  ∃ b, PySem.W.exmOne K cls c = some b ∧
    (b = true → ∃ Ca, cls = .ref Ca ∧ ∀ a, H a = none → ts { nx := fun τ G => D.nx (τ.set i none) G, rt := D.rt, bk := fun τ G => D.bk (τ.set i none) G, ct := fun τ G => D.ct (τ.set i none) G } (σ.set i (some (.ref a))) (upd H a (.ext (ExcP a Ca d)))) ∧
    (b = false → Wout cls d σ H)
section
variable {X : Cx} {x n : Str} {c : Value} {i : Nat} {body su : List Stmt} {st : Stmt} {np pos pos' : Pos} {tb : WX → TS} {ts : TS} {Wout : WX}
/-- try: body, except x as n: st, su; what is caught is known behind -/
theorem ps_tryT (hs : X.stack = X.env :: X.outer) (hf : X.env.frame = some X.env.locals) (hex : X.ex = []) (hN : X.N.Nodup) (hi : X.N[i]? = some n) (hln : X.env.kindOf n = some .local) (hc : Names X x c) (tk : Takes X Wout)
    (hb : ∀ (W : WX) (pn : List (Addr × Obj)) (xe : Value → Shared → Prop), Takes (X.tr pn xe) W → PassesOwn (model X.prog X.w) X.A X.env xe → PSs (X.tr pn xe) body (tb W))
    (hsu : ∀ (a : Addr) (pn : List (Addr × Obj)), PSs (X.suite a pn) (st :: su) ts) :
    PS X (.Try body [.ExceptHandler (some (.Name x np)) (some n) (st :: su) pos'] [] [] pos) (fun D σ H => tb (wTr X.K c i ts Wout D) D σ H) := by
  constructor
  intro pins s σ H D I hyp
  have okX := I.ok
  have frm : X.A.frames = some (X.env :: X.outer) := okX.frames.trans (congrArg some hs)
  refine wpAny_Try_except (wpAny_mono ((hb (wTr X.K c i ts Wout D) (X.pn ++ pins) (fun v t1 => wpAny (model X.prog X.w) X.A (noteFrame v X.env) (fun _ t2 => wpAny (model X.prog X.w) X.A (setFlight v none) (fun _ t3 =>
    wpAny (model X.prog X.w) X.A (handleBy v X.env [.ExceptHandler (some (.Name x np)) (some n) (st :: su) pos']) (SP X pins D) X.xe t3) X.xe t2) X.xe t1) (fun u t0 air => ?_) PassesOwn.looking).run [] s σ H D (I.toTry _) hyp) (fun fl t1 fin => ?_) fun _ _ z => z)
  · obtain ⟨a, B, sI, pins', σ1, H1, cls, d, rfl, J0, nb, up0, sky0, na, os, ag, b, hb1, hyes, hno⟩ := air
    have J1 : Inv X pins σ1 H1 sI := J0.ofTry okX
    have sky1 : Sky B (X.env :: X.outer) a (Zc cls d) X.env.locals t0.heap := hs ▸ sky0
    show wpAny (model X.prog X.w) X.A (noteFrame (.ref a) X.env) _ _ _
    refine Sky.land Zc.steady frm hf sky1 fun g fly upg => ?_
    have J2 : Inv X pins σ1 H1 { t0 with heap := g } := J1.landed nb fly.1 (up0.trans upg) os ag
    obtain ⟨oa, va, ga, za, da⟩ := fly.there
    have nst : a ∉ frs (X.env :: X.outer) := fun hm => by
      obtain ⟨_, o1, q1, q2⟩ := fly.2.2.1.mem hm
      rw [ga] at q1
      cases q1
      exact q2 _ da
    have neL : a ≠ X.env.locals := fun z => nst (List.mem_filterMap.mpr ⟨X.env, List.mem_cons_self, hf.trans (congrArg some z.symm)⟩)
    have neF : a ∉ X.fs := fun hm => by
      obtain ⟨v, hv, q⟩ := List.mem_filterMap.mp hm
      exact nst (List.mem_filterMap.mpr ⟨v, List.mem_cons_of_mem _ hv, q⟩)
    have S1 := J2.suite ga da na neL neF
    refine wpAny_handleBy_cons (codeAny_handlers_test ?_) (fun q => nomatch q)
    have lt : PySem.W.Looks (model X.prog X.w) g (typeOf (.ref a)) cls := fun _ _ _ _ k q => wpAny_typeOf_ref (k _ _ ga) (za.1.symm ▸ q)
    have lm := PySem.W.exm_one (M := model X.prog X.w) J2.kIn lt hb1
    have ask : ∀ {Q : Value → Shared → Prop} {E : Value → Shared → Prop}, Q c { t0 with heap := g } → wpAny (model X.prog X.w) (X.A.mark (some (.ref a))) (eval (.Name x np) X.env) Q E { t0 with heap := g } := fun q => by
      rcases hc with ⟨hg, hdbg, hm | ⟨hm, hv, hnn⟩⟩
      · exact ld_glob (X := X.suite a ((a, oa) :: (X.pn ++ pins))) S1 hg hm q hdbg
      · exact ld_blt (X := X.suite a ((a, oa) :: (X.pn ++ pins))) S1 hg hm hv q hnn hdbg
    refine ask (lm.here ?_)
    cases b with
    | false =>
      refine wpAny_handleBy_nil ?_
      obtain ⟨_, _, _, oe, vs, T, oT, ts', he, hz, hd, h1, _⟩ := id fly
      unfold PySem.passOn
      refine wpAny_bind (wpAny_field he hd h1 ?_)
      rw [if_neg (show ¬ ((Value.ref T == Value.none) = true) by simp)]
      have on : wpAny (model X.prog X.w) X.A (setFlight (.ref a) X.env.frame) (fun _ t4 => wpAny (model X.prog X.w) X.A (throw (.ref a) : Sem Flow) (SP X pins D) X.xe t4) X.xe { t0 with heap := g } := by
        rw [hf]
        exact HandSPX.setFlight_upZ fly fun g4 hh up4 => wpAny_throw (tk _ _ ⟨a, B, sI, pins, σ1, H1, cls, d, rfl, J1, nb, (up0.trans upg).trans up4, .inr (.inr (hs.symm ▸ hh)), na, os, ag, hno rfl⟩)
      first
        | exact wpAny_bind (wpAny_pure (wpAny_bind on))
        | exact wpAny_bind on
    | true =>
      obtain ⟨Ca, rfl, go⟩ := hyes rfl
      refine codeAny_handlers_suite_as (HandSPX.lands_againZ fly fun g4 fly4 up4 => ?_)
      have J4 : Inv X pins σ1 H1 { t0 with heap := g4 } := J1.landed nb fly4.1 ((up0.trans upg).trans up4) os ag
      obtain ⟨o4, v4, q4, z4, d4⟩ := fly4.there
      have n0 : X.s_0.heap.get? a = none := by
        cases e0 : X.s_0.heap.get? a with
        | none => rfl
        | some o0 =>
          obtain ⟨o1, e1⟩ := J1.base.there a o0 e0 (by rw [hex]; exact fun z => nomatch z)
          have e2 := nb a o1 e1 (hs.symm ▸ nst)
          rw [fly.2.1] at e2
          cases e2
      have K4 : Inv X pins σ1 (upd H1 a (.ext (ExcP a Ca d))) { t0 with heap := g4 } := by
        refine Inv.seen J4 n0 na (Ne.symm neL) (fun y cc e => ?_) (fun p hp => ?_) (excP_ok q4 z4 d4)
        · rintro rfl
          obtain ⟨v, oc, hoc, hdc⟩ := J4.cell y cc e
          rw [show g4.get? cc = some o4 from q4] at hoc
          cases hoc
          rw [d4] at hdc
          cases hdc
        · intro z
          obtain ⟨p1, p2, p3, p4, p5⟩ := J1.pin p hp
          rw [z] at p1 p3 p4
          have e2 := nb a p.2 p1 (hs.symm ▸ nst)
          rw [fly.2.1] at e2
          cases e2
      have K5 : Inv (X.suite a (X.pn ++ pins)) [] σ1 (upd H1 a (.ext (ExcP a Ca d))) { t0 with heap := g4 } :=
        ⟨okX.suite _ _, K4.os, K4.bare, K4.base, K4.loc, K4.cell, K4.free, K4.freeC, fun p hp => K4.pin p (by rw [List.append_nil] at hp; exact hp), K4.hok, K4.len⟩
      refine store_ok (X := X.suite a (X.pn ++ pins)) (v := .ref a) K5 hN hi (.inl hln) rfl (fun t5 K6 => ?_) (.inr hln)
      refine wpAny_mono ((hsu a (X.pn ++ pins)).run [] t5 _ _ _ K6 (go a na)) (fun fl t6 fin => ?_) fun _ _ z => z.elim
      have off : ∀ {σ7 : St} {H7 : Hp} {Q : Shared → Prop}, Inv (X.suite a (X.pn ++ pins)) [] σ7 H7 t6 → (∀ t7, Inv X pins (σ7.set i none) H7 t7 → Q t7) →
          wpAny (model X.prog X.w) X.A (do bindName X.env n .none; unbindBehindTheSuite X.env n pos') (fun _ t7 => Q t7) X.xe t6 := fun K q =>
        gone_ok (X := X) (pins := pins) ⟨okX, K.os, K.bare, K.base, K.loc, K.cell, K.free, K.freeC, fun p hp => K.pin p (by rw [List.append_nil]; exact hp), K.hok, K.len⟩ hN hi hln q
      cases fl with
      | next => obtain ⟨_, _, K7, q7⟩ := fin; exact off K7 fun _ J7 => ⟨_, _, J7, q7⟩
      | brk => obtain ⟨_, _, K7, q7⟩ := fin; exact off K7 fun _ J7 => ⟨_, _, J7, q7⟩
      | cont => obtain ⟨_, _, K7, q7⟩ := fin; exact off K7 fun _ J7 => ⟨_, _, J7, q7⟩
      | ret u => obtain ⟨_, _, _, K7, r7, q7⟩ := fin; exact off K7 fun _ J7 => ⟨_, _, _, J7, r7, q7⟩
  · cases fl with
    | next => obtain ⟨_, _, K1, q⟩ := fin; exact wpAny_execs_nil ⟨_, _, K1.ofTry okX, q⟩
    | brk => obtain ⟨_, _, K1, q⟩ := fin; exact ⟨_, _, K1.ofTry okX, q⟩
    | cont => obtain ⟨_, _, K1, q⟩ := fin; exact ⟨_, _, K1.ofTry okX, q⟩
    | ret u => obtain ⟨_, _, _, K1, r, q⟩ := fin; exact ⟨_, _, _, K1.ofTry okX, r, q⟩
end
/-! ### the mirror -/
/-- is it one of these classes? -/
def isE (names : List Str) (c : Str) : Bool := names.contains c
def sTry (m : MS) (i : Nat) (catch_ : Str → Bool) (ms : MS) : MS := fun τ h => match m τ h with
  | .err c xs τ1 h1 => if catch_ c = true then (match ms (τ1.set i (some (.exc c xs))) h1 with
      | .nx τ2 h2 => .nx (τ2.set i none) h2
      | .bk τ2 h2 => .bk (τ2.set i none) h2
      | .ct τ2 h2 => .ct (τ2.set i none) h2
      | .rt d h2 => .rt d h2
      | _ => .stuck) else .stuck
  | r => r
/-- what a clause's class says of all that it takes -/
structure HdT (K : PySem.W.Frag) (cl : Str → Option Addr) (u : Value) (catch_ : Str → Bool) : Prop where
  ex : ∀ c Ca, catch_ c = true → cl c = some Ca → PySem.W.exmOne K (.ref Ca) u = some true
/-- the program's errors -/
def EXCS : List Str := ["BadNumber", "BadWorths", "BadLies", "BadHouses", "NoHouse", "NoLetter", "NotNow", "BadTable", "BadSaying"]
section
variable {X : Cx} {cl : Str → Option Addr} {W : WX}
theorem js_try {x n : Str} {c : Value} {i : Nat} {body su : List Stmt} {st : Stmt} {np pos pos' : Pos} {m ms : MS} {catch_ : Str → Bool} (hs : X.stack = X.env :: X.outer) (hf : X.env.frame = some X.env.locals) (hex : X.ex = []) (hN : X.N.Nodup) (hi : X.N[i]? = some n) (hln : X.env.kindOf n = some .local) (hc : Names X x c) (tk : Takes X W)
    (hd : HdT X.K cl c catch_)
    (hb : ∀ (W' : WX) (pn : List (Addr × Obj)) (xe : Value → Shared → Prop), Takes (X.tr pn xe) W' → PassesOwn (model X.prog X.w) X.A X.env xe → JSs cl W' (X.tr pn xe) body m)
    (hsu : ∀ (a : Addr) (pn : List (Addr × Obj)), JSs cl NoW (X.suite a pn) (st :: su) ms) :
    JS cl W X (.Try body [.ExceptHandler (some (.Name x np)) (some n) (st :: su) pos'] [] [] pos) (sTry m i catch_ ms) := by
  refine ps_imp (ps_tryT (tb := fun W' => tS X.K cl W' m) (ts := tS X.K cl NoW ms) hs hf hex hN hi hln hc tk hb hsu) fun D σ H q => ?_
  obtain ⟨τ, ρ, h, hr, er, p⟩ := q
  refine ⟨τ, ρ, h, hr, er, ?_⟩
  unfold sTry at p
  cases em : m τ h with
  | nx τ1 h1 => simp only [em] at p; exact p
  | rt d h1 => simp only [em] at p; exact p
  | bk τ1 h1 => simp only [em] at p; exact p
  | ct τ1 h1 => simp only [em] at p; exact p
  | stuck => simp only [em] at p; exact p
  | err k xs τ1 h1 =>
    simp only [em] at p
    intro ρ1 H1 σ1 cv dd hr1 e1 er1 x1
    obtain ⟨Ca, hcl, rfl, hx⟩ := x1
    cases hk : catch_ k with
    | false => rw [hk, if_neg Bool.false_ne_true] at p; exact p.elim
    | true =>
    refine ⟨true, hd.ex k Ca hk hcl, fun _ => ⟨Ca, rfl, fun a na => ?_⟩, fun z => (by cases z)⟩
    rw [if_pos hk] at p
    obtain ⟨g1, g2, g3⟩ := hr1.newV (o := .ext (ExcP a Ca dd)) na
    have rx : RelD X.K cl ρ1 h1 (upd H1 a (.ext (ExcP a Ca dd))) (.exc k xs) (.ref a) := by
      rcases hx with ⟨rfl, rfl⟩ | ⟨x, u, b, rfl, rfl, hb1, nb, rxu⟩
      · exact .exc0 hcl upd_same g3
      · exact .exc1 hcl upd_same g3 ((upd_ne (ne_of_none hb1 na)).trans hb1) nb (rxu.mono g2)
    refine ⟨τ1.set i (some (.exc k xs)), ρ1, h1, g1, (er1.mono g2).set i rx, ?_⟩
    have ee := e1.trans g2
    cases es : ms (τ1.set i (some (.exc k xs))) h1 with
    | nx τ2 h2 => simp only [es] at p; exact fun ρ2 H2 σ2 hr2 e2 er2 => p ρ2 H2 _ hr2 (ee.trans e2) (er2.unset i)
    | bk τ2 h2 => simp only [es] at p; exact fun ρ2 H2 σ2 hr2 e2 er2 => p ρ2 H2 _ hr2 (ee.trans e2) (er2.unset i)
    | ct τ2 h2 => simp only [es] at p; exact fun ρ2 H2 σ2 hr2 e2 er2 => p ρ2 H2 _ hr2 (ee.trans e2) (er2.unset i)
    | rt d h2 => simp only [es] at p; exact fun ρ2 H2 v hr2 e2 r2 => p ρ2 H2 v hr2 (ee.trans e2) r2
    | err k2 xs2 τ2 h2 => simp only [es] at p; exact p.elim
    | stuck => simp only [es] at p; exact p.elim
/-! ### isinstance of what was kept -/
def rIsC (K : PySem.W.Frag) : List V → Hp → VK → Prop := fun xs H Q => ∃ (a Ca : Addr) (c : V) (u : Value) (b : Bool), xs = [.ref a, c] ∧ (∀ v, RelV c v → v = u) ∧ H a = some (.ext (ExcP a Ca none)) ∧ ExcC K Ca ∧ PySem.W.kitOne K (.ref Ca) u = some b ∧ Q (.bl b) H
theorem call_isC : CallR X (.builtin "isinstance") (rIsC X.K) := by
  intro pins s σ H xs us Q I r hyp
  obtain ⟨a, Ca, c, u, b, rfl, hcu, ha, C, e, q⟩ := hyp
  obtain ⟨ua, uc, rfl, ra, rc⟩ : ∃ ua uc, us = [ua, uc] ∧ RelV (.ref a) ua ∧ RelV c uc := by
    cases r with
    | cons r1 t =>
      cases t with
      | cons r2 t => cases t; exact ⟨_, _, rfl, r1, r2⟩
  cases ra
  have := hcu _ rc
  subst this
  obtain ⟨⟨oe, hget, ⟨z1, z2⟩, vs, hv⟩, _⟩ := I.hok a _ ha
  have J : PySem.W.InstAt s.heap a oe Ca none := by
    obtain ⟨oc, od, oda, osl⟩ := oe
    dsimp only at z1 z2 hv
    subst z1 z2 hv
    exact ⟨hget, rfl, rfl, trivial⟩
  exact PySem.W.kia_one (PySem.W.handS_kitx_exc C.hg C.hk C.hs C.hd C.ha C.hn C.ht C.hm) I.kIn J e (fun z => nomatch z) fun tk => ⟨.bl b, H, I.kept (t' := tk) fun _ _ z => z, rfl, q⟩
structure ClsT (K : PySem.W.Frag) (cl : Str → Option Addr) (u : Value) (names : List Str) : Prop where
  ex : ∀ c Ca, isE EXCS c = true → cl c = some Ca → PySem.W.kitOne K (.ref Ca) u = some (isE names c)
structure ExcAll (K : PySem.W.Frag) (cl : Str → Option Addr) : Prop where
  ex : ∀ c Ca, isE EXCS c = true → cl c = some Ca → ExcC K Ca
def oIsE (names : List Str) : Dv → MH → Res Dv
  | .exc c [], h => if isE EXCS c = true then .ok (.bl (isE names c)) h else .stuck
  | _, _ => .stuck
variable {p pos p2 : Pos} {e : Expr} {m : ME}
theorem je_isE {names : List Str} {x : Str} {u : Value} {cv : V} (T : ClsT X.K cl u names) (A : ExcAll X.K cl) (hg : Gl X "isinstance") (hm : X.mg "isinstance" = none) (hcv : ∀ v, RelV cv v → v = u) (hx : PE X (.Name x p2) (tC cv)) (he : JE cl W X e m)
    (hs1 : starEach [e, .Name x p2] X.env = (false, eval e X.env) :: starEach [.Name x p2] X.env := by rfl) (hs2 : starEach [.Name x p2] X.env = (false, eval (.Name x p2) X.env) :: starEach [] X.env := by rfl) (hpl : (backTo pos (starEach [.Name x p2] X.env)).any (·.1) = false := by rfl) :
    JE cl W X (.Call (.Name "isinstance" p) [e, .Name x p2] [] pos) (eOp1 (oIsE names) m) := by
  refine pe_imp (pe_callB call_isC hg hm bt_isinstance (pa_cons he (pa_cons hx pa_nil hs2) hs1) (by decide) (by decide) hs1 hpl) fun σ H Q q => ?_
  refine tM_bind (R1 := RD X.K cl) (f := fun _ => oIsE names) q fun τ ρ1 h1 H1 d v hr1 er1 r1 p1 => ?_
  cases r1 with
  | @exc0 a Ca c hcl ha nl =>
    have p1 : Post X.K cl (RD X.K cl) W σ ρ1 h1 H1 (if isE EXCS c = true then .ok (.bl (isE names c)) h1 else .stuck) Q := p1
    cases hk : isE EXCS c with
    | false => rw [hk, if_neg Bool.false_ne_true] at p1; exact p1.elim
    | true =>
      rw [hk, if_pos rfl] at p1
      exact ⟨a, Ca, cv, u, _, rfl, hcv, ha, A.ex _ _ hk hcl, T.ex _ _ hk hcl, p1 ρ1 H1 _ hr1 (.refl _ _ _) (.bl _)⟩
  | _ => exact p1.elim
theorem pe_cls {x : Str} {C : Addr} (hg : Gl X x) (hm : X.mg x = some (.ref C)) (hdb : (x == ("__debug__" : Str)) = false := by decide) : PE X (.Name x p2) (tC (.ref C)) := pe_glob hg hm (v := .ref C) rfl hdb
/-! ### what a list's method tells, the list as it was -/
structure MthR (X : Cx) (cl : Str → Option Addr) (id : String) (g : List Dv → List Dv → Option Dv) : Prop where
  ex : ∃ r : V → List V → Hp → VK → Prop, MtR X id r ∧ ∀ (ρ : Rho) (h : MH) (H : Hp) (a : Addr) (xs ds : List Dv) (vs us : List V) (y : Dv) (Q : VK), RelDs X.K cl ρ h H xs vs → RelDs X.K cl ρ h H ds us → SqL X.K H a vs → g xs ds = some y →
    (∀ w, RelD X.K cl ρ h H y w → Q w H) → r (.ref a) us H Q
def eMthR (g : List Dv → List Dv → Option Dv) (mo : ME) (ms : MA) : ME := fun τ h => (mo τ h).bind fun d h1 => match rdK h1 d with
  | some _ => (ms τ h1).bind fun ds h2 => (match rdK h2 d with
    | some xs => (match g xs ds with
      | some y => .ok y h2
      | none => .stuck)
    | none => .stuck)
  | none => .stuck
theorem je_mthR {o : Expr} {es : List Expr} {mo : ME} {ms : MA} {name : Str} {apos cpos : Pos} {id : String} {g : List Dv → List Dv → Option Dv} (pa : PlainAttrs "list") (slot : Slot "list" name id) (hty : typeOf (.builtin id) = pure (.type "method_descriptor")) (hm : MthR X cl id g) (ho : JE cl W X o mo) (ha : JA cl W X (e :: es) ms)
    (hbase : attributeBase o name X.env (eval o X.env) = eval o X.env := by rfl)
    (hfew : ((backTo cpos (starEach (e :: es) X.env)).all (fun x => !x.1) && (backToKw cpos (keywordEach [] X.env)).all (fun x => x.1.isSome)
      && decide ((e :: es).length + ([] : List Keyword).length + (if ([] : List Keyword).isEmpty then 0 else 1) < 30)) = true := by rfl)
    (hline : (apos.endLine == cpos.line) = true := by rfl) (hs : starEach (e :: es) X.env = (false, eval e X.env) :: starEach es X.env := by rfl) (hplain : (backTo cpos (starEach es X.env)).any (·.1) = false := by rfl) :
    JE cl W X (.Call (.Attribute o name apos) (e :: es) [] cpos) (eMthR g mo ms) := by
  obtain ⟨r, h1, h2⟩ := hm.ex
  refine pe_imp (pe_bm pa slot hty h1 ho ha hbase hfew hline hs hplain) fun σ H Q q => ?_
  refine tM_bind (R1 := RD X.K cl) (f := fun τ d h1 => match rdK h1 d with
    | some _ => (ms τ h1).bind fun ds h2 => (match rdK h2 d with
      | some xs => (match g xs ds with
        | some y => .ok y h2
        | none => .stuck)
      | none => .stuck)
    | none => .stuck) q fun τ ρ1 h1 H1 d v hr1 er1 r1 p1 => ?_
  cases ek : rdK h1 d with
  | none => simp only [ek] at p1; exact p1.elim
  | some xs0 =>
    simp only [ek] at p1
    obtain ⟨a, vs0, rfl, sq, _⟩ := rdK_rel hr1 r1 ek
    refine ⟨.inl ⟨rfl, vs0, sq⟩, τ, ρ1, h1, hr1, er1, Post.bind p1 fun ds h2' ρ2 H2 us hr2 e2 r2 p2 => ?_⟩
    cases ek2 : rdK h2' d with
    | none => simp only [ek2] at p2; exact p2.elim
    | some xs =>
      simp only [ek2] at p2
      cases eg : g xs ds with
      | none => simp only [eg] at p2; exact p2.elim
      | some y =>
        simp only [eg] at p2
        obtain ⟨b, vs, eb, sq2, rs⟩ := rdK_rel hr2 (r1.mono e2) ek2
        cases eb
        exact h2 ρ2 h2' H2 a xs ds vs us y Q rs r2 sq2 eg fun w rw' => p2 ρ2 H2 w hr2 (.refl _ _ _) rw'
theorem flats_at {K : PySem.W.Frag} {ρ : Rho} {h : MH} {H : Hp} {x : V} {d : Dv} {p : PyData} (rx : RelD K cl ρ h H d x) (ex : flatD d = some p) : ∀ {ds : List Dv} {vs : List V} {ps : List PyData}, RelDs K cl ρ h H ds vs → optAll (ds.map flatD) = some ps →
    vs.all flatV = true ∧ vs.map (fun y => eqV y x) = ps.map fun z => PyData.eqv z p
  | [], _, _, .nil, e => by cases e; exact ⟨rfl, rfl⟩
  | y :: ds, _, _, .cons r rs, e => by
    rw [List.map_cons] at e
    cases hd : flatD y with
    | none => rw [hd] at e; cases e
    | some q =>
      rw [hd] at e
      unfold optAll at e
      cases hy : optAll (ds.map flatD) with
      | none => rw [hy] at e; cases e
      | some ps =>
        rw [hy] at e
        cases e
        obtain ⟨h1, h2⟩ := flats_at rx ex rs hy
        exact ⟨by rw [List.all_cons, (flatD_rel r hd).1, h1]; rfl, by rw [List.map_cons, List.map_cons, h2, (flatD_rel r hd).2 rx ex]⟩
/-- how often -/
def gCount : List Dv → List Dv → Option Dv
  | xs, [y] => match flatD y, optAll (xs.map flatD) with
    | some p, some ps => some (.int (ps.countP fun z => PyData.eqv z p : Nat))
    | _, _ => none
  | _, _ => none
/-- the first place -/
def gIndex : List Dv → List Dv → Option Dv
  | xs, [y] => match flatD y, optAll (xs.map flatD) with
    | some p, some ps => (ps.findIdx? fun z => PyData.eqv z p).map fun j => .int (j : Nat)
    | _, _ => none
  | _, _ => none
def rCntF (K : PySem.W.Frag) : V → List V → Hp → VK → Prop := fun x xs H Q => ∃ (a : Addr) (ys : List V) (y : V), x = V.ref a ∧ xs = [y] ∧ SqL K H a ys ∧ flatV y = true ∧ ys.all flatV = true ∧ Q (.int (ys.countP fun z => eqV z y : Nat)) H
theorem countU {x : V} : ∀ {ys : List V} {us : List Value}, Vals ys us → ys.all flatV = true → us.countP (eqU x) = ys.countP fun z => eqV z x
  | _, _, .nil, _ => rfl
  | y :: ys, u :: us, .cons r t, f => by
    rw [List.all_cons, Bool.and_eq_true] at f
    rw [List.countP_cons, List.countP_cons, countU t f.2, eqU_of r f.1]
theorem mt_countF : MtR X "list.count" (rCntF X.K) := by
  intro pins s σ H x xs v us Q I rx rxs hyp
  obtain ⟨a, ys, y, rfl, rfl, sq, fy, fys, q⟩ := hyp
  cases rx
  obtain ⟨u, rfl, ru⟩ := rxs.one
  obtain ⟨its, rv, ⟨⟨cls, dd, data, sl⟩, n, ho, hc, hdn, hd⟩, hlen⟩ := I.list sq
  simp only at hc hd
  subst hc hd
  refine call_meets PySem.F.slot_list_count ⟨_, ho, rfl⟩ PySem.F.entry_list_count (PySem.F.args_list_count_2 _ _) (SeqAt.list_countAt a its.toArray n dd sl u (eqU y))
    ⟨ho, fun w hw => mem_eqAt ru fy rv fys w (by simpa using hw), ⟨.int (ys.countP fun z => eqV z y : Nat), H, I.tok _, ⟨s.toks, ?_⟩, q⟩⟩
  show Value.int ((its.toArray.toList.countP (eqU y) : Nat) : Int) s.toks = _
  rw [show its.toArray.toList = its by simp, countU rv fys]
theorem mthr_count : MthR X cl "list.count" gCount := by
  refine ⟨⟨_, mt_countF, fun ρ h H a xs ds vs us y Q rs rd sq e k => ?_⟩⟩
  unfold gCount at e
  split at e
  · split at e
    · rename_i d p ps e1 e2
      cases e
      obtain ⟨v, rfl, r⟩ := rd.one
      obtain ⟨h1, h2⟩ := flats_at r e1 rs e2
      refine ⟨a, vs, v, rfl, rfl, sq, (flatD_rel r e1).1, h1, ?_⟩
      have : vs.countP (fun z => eqV z v) = ps.countP fun z => PyData.eqv z p := by
        have c1 := List.countP_map (p := id) (f := fun z => eqV z v) (l := vs)
        have c2 := List.countP_map (p := id) (f := fun z => PyData.eqv z p) (l := ps)
        rw [h2] at c1
        exact c1.symm.trans c2
      rw [this]
      exact k _ (.int _)
    · cases e
  · cases e
theorem mthr_index : MthR X cl "list.index" gIndex := by
  refine ⟨⟨_, mt_index, fun ρ h H a xs ds vs us y Q rs rd sq e k => ?_⟩⟩
  unfold gIndex at e
  split at e
  · split at e
    · rename_i d p ps e1 e2
      cases ej : ps.findIdx? fun z => PyData.eqv z p with
      | none => rw [ej] at e; cases e
      | some j =>
        rw [ej] at e
        cases e
        obtain ⟨v, rfl, r⟩ := rd.one
        obtain ⟨h1, h2⟩ := flats_at r e1 rs e2
        obtain ⟨hj, g1, g2⟩ := List.findIdx?_eq_some_iff_getElem.mp ej
        have hl : vs.length = ps.length := by have := congrArg List.length h2; simpa using this
        have at_ : ∀ (i : Nat) (hi : i < vs.length), eqV vs[i] v = PyData.eqv (ps[i]'(by omega)) p := fun i hi => by
          have := congrArg (fun l => l[i]?) h2
          simpa [hi, hl ▸ hi] using this
        refine ⟨a, vs, v, j, vs[j]'(by omega), rfl, rfl, sq, (flatD_rel r e1).1, h1, by simp, ?_, fun i z hi hz => ?_, k _ (.int _)⟩
        · rw [at_ j (by omega)]
          exact g1
        · obtain ⟨hi2, rfl⟩ := List.getElem?_eq_some_iff.mp hz
          rw [at_ i hi2]
          simpa using g2 i hi
    · cases e
  · cases e
end
/-! ### what a program's text says of its errors -/
structure ClsAt (K : PySem.W.Frag) (mg : Str → Option Value) (cl : Str → Option Addr) (x : Str) (names : List Str) : Prop where
  ex : ∃ C, mg x = some (.ref C) ∧ ClsT K cl (.ref C) names
structure HdAt (K : PySem.W.Frag) (mg : Str → Option Value) (cl : Str → Option Addr) (x : Str) (names : List Str) : Prop where
  ex : ∃ C, mg x = some (.ref C) ∧ HdT K cl (.ref C) (isE names)
theorem look_all {P : Str → Addr → Prop} : ∀ {l : List (Str × Addr)} {c : Str} {a : Addr}, List.lookup c l = some a → (∀ p ∈ l, P p.1 p.2) → P c a
  | [], _, _, e, _ => by cases e
  | (x, b) :: l, c, a, e, h => by
    rw [List.lookup_cons] at e
    cases hc : c == x with
    | true =>
      rw [hc] at e
      cases e
      have : c = x := by simpa using hc
      subst this
      exact h (c, b) List.mem_cons_self
    | false =>
      rw [hc] at e
      exact look_all e fun p hp => h p (List.mem_cons_of_mem _ hp)
section
variable {X : Cx} {cl : Str → Option Addr} {W : WX} {p pos p2 : Pos} {e : Expr} {m : ME}
theorem je_isEx {names : List Str} {x : Str} (T : ClsAt X.K X.mg cl x names) (A : ExcAll X.K cl) (hg : Gl X "isinstance") (hm : X.mg "isinstance" = none) (hgx : Gl X x) (he : JE cl W X e m) (hdb : (x == ("__debug__" : Str)) = false := by decide)
    (hs1 : starEach [e, .Name x p2] X.env = (false, eval e X.env) :: starEach [.Name x p2] X.env := by rfl) (hs2 : starEach [.Name x p2] X.env = (false, eval (.Name x p2) X.env) :: starEach [] X.env := by rfl) (hpl : (backTo pos (starEach [.Name x p2] X.env)).any (·.1) = false := by rfl) :
    JE cl W X (.Call (.Name "isinstance" p) [e, .Name x p2] [] pos) (eOp1 (oIsE names) m) := by
  obtain ⟨C, hC, T⟩ := T.ex
  exact je_isE T A hg hm (cv := .ref C) (fun _ h => h) (pe_cls hgx hC hdb) he hs1 hs2 hpl
theorem je_isEb {names : List Str} {x : Str} {B : String} (T : ClsT X.K cl (.type B) names) (A : ExcAll X.K cl) (hg : Gl X "isinstance") (hm : X.mg "isinstance" = none) (hgx : Gl X x) (hmx : X.mg x = none) (hv : bootBuiltins x = some (.type B)) (he : JE cl W X e m) (hn : x ≠ "__name__" := by decide) (hdb : (x == ("__debug__" : Str)) = false := by decide)
    (hs1 : starEach [e, .Name x p2] X.env = (false, eval e X.env) :: starEach [.Name x p2] X.env := by rfl) (hs2 : starEach [.Name x p2] X.env = (false, eval (.Name x p2) X.env) :: starEach [] X.env := by rfl) (hpl : (backTo pos (starEach [.Name x p2] X.env)).any (·.1) = false := by rfl) :
    JE cl W X (.Call (.Name "isinstance" p) [e, .Name x p2] [] pos) (eOp1 (oIsE names) m) :=
  je_isE T A hg hm (cv := .ty B) (fun _ h => h) (pe_bltn hgx hmx hv (v := .ty B) rfl hn hdb) he hs1 hs2 hpl
theorem js_tryX {x n : Str} {i : Nat} {names : List Str} {body su : List Stmt} {st : Stmt} {np pos pos' : Pos} {m ms : MS} (T : HdAt X.K X.mg cl x names) (hgx : Gl X x) (hs : X.stack = X.env :: X.outer) (hf : X.env.frame = some X.env.locals) (hex : X.ex = []) (hN : X.N.Nodup) (hi : X.N[i]? = some n) (hln : X.env.kindOf n = some .local) (tk : Takes X W)
    (hb : ∀ (W' : WX) (pn : List (Addr × Obj)) (xe : Value → Shared → Prop), Takes (X.tr pn xe) W' → PassesOwn (model X.prog X.w) X.A X.env xe → JSs cl W' (X.tr pn xe) body m)
    (hsu : ∀ (a : Addr) (pn : List (Addr × Obj)), JSs cl NoW (X.suite a pn) (st :: su) ms) (hdb : (x == ("__debug__" : Str)) = false := by decide) :
    JS cl W X (.Try body [.ExceptHandler (some (.Name x np)) (some n) (st :: su) pos'] [] [] pos) (sTry m i (isE names) ms) := by
  obtain ⟨C, hC, T⟩ := T.ex
  exact js_try hs hf hex hN hi hln ⟨hgx, hdb, .inl hC⟩ tk T hb hsu
/-- {} -/
def eDct0 : ME := fun _ h => .ok (.dct []) h
theorem je_dct0 : JE cl W X (.Dict [] [] pos) eDct0 := by
  refine pe_imp pe_dnewK fun σ H Q q => ?_
  obtain ⟨τ, ρ, h, hr, er, p⟩ := q
  intro d hd
  obtain ⟨h1, h2, h3⟩ := hr.newV (o := .dK []) hd
  exact p ρ _ _ h1 h2 (.dctK (ks := []) (vs := []) (.inl upd_same) h3 rfl .nil)
end
/-! ### what a run must show -/
section
variable {D : Ew} {τ : MEnv} {h : MH}
theorem wS_try {m ms : MS} {i : Nat} {catch_ : Str → Bool}
    (w : wS (m τ h) { D with E := fun c xs τ1 h1 => catch_ c = true ∧ wS (ms (τ1.set i (some (.exc c xs))) h1) { N := fun τ2 h2 => D.N (τ2.set i none) h2, R := D.R, B := fun τ2 h2 => D.B (τ2.set i none) h2, C := fun τ2 h2 => D.C (τ2.set i none) h2 } }) : wS (sTry m i catch_ ms τ h) D := by
  unfold sTry
  cases e : m τ h with
  | nx τ1 h1 => rw [e] at w; with_unfolding_all exact w
  | rt d h1 => rw [e] at w; with_unfolding_all exact w
  | bk τ1 h1 => rw [e] at w; with_unfolding_all exact w
  | ct τ1 h1 => rw [e] at w; with_unfolding_all exact w
  | stuck => rw [e] at w; with_unfolding_all exact w
  | err c xs τ1 h1 =>
    rw [e] at w
    have w : catch_ c = true ∧ wS (ms (τ1.set i (some (.exc c xs))) h1) { N := fun τ2 h2 => D.N (τ2.set i none) h2, R := D.R, B := fun τ2 h2 => D.B (τ2.set i none) h2, C := fun τ2 h2 => D.C (τ2.set i none) h2 } := by with_unfolding_all exact w
    simp only
    rw [if_pos w.1]
    have w := w.2
    cases es : ms (τ1.set i (some (.exc c xs))) h1 with
    | nx τ2 h2 => rw [es] at w; with_unfolding_all exact w
    | rt d h2 => rw [es] at w; with_unfolding_all exact w
    | bk τ2 h2 => rw [es] at w; with_unfolding_all exact w
    | ct τ2 h2 => rw [es] at w; with_unfolding_all exact w
    | err c2 xs2 τ2 h2 => rw [es] at w; with_unfolding_all exact w
    | stuck => rw [es] at w; with_unfolding_all exact w
theorem wE_mthR {Q : Dv → MH → Prop} {E : QE} {g : List Dv → List Dv → Option Dv} {mo : ME} {ms : MA} (w : wR (mo τ h) (fun d h1 => (∃ xs, rdK h1 d = some xs) ∧ wR (ms τ h1) (fun ds h2 => ∃ xs y, rdK h2 d = some xs ∧ g xs ds = some y ∧ Q y h2) E) E) : wR (eMthR g mo ms τ h) Q E := by
  refine wR_bind (wR_mono w (fun d h1 w => ?_) fun _ _ _ e => e)
  obtain ⟨⟨xs, e⟩, w⟩ := w
  show wR (match rdK h1 d with
    | some _ => (ms τ h1).bind fun ds h2 => (match rdK h2 d with
      | some xs => (match g xs ds with
        | some y => .ok y h2
        | none => .stuck)
      | none => .stuck)
    | none => .stuck) Q E
  rw [e]
  refine wR_bind (wR_mono w (fun ds h2 w => ?_) fun _ _ _ e => e)
  obtain ⟨ys, y, e1, e2, q⟩ := w
  simp only [e1, e2]
  exact wR_ok q
theorem wE_dct0 {Q : Dv → MH → Prop} {E : QE} (q : Q (.dct []) h) : wR (eDct0 τ h) Q E := wR_ok q
theorem wE_isE {Q : Dv → MH → Prop} {E : QE} {names : List Str} {c : Str} (hk : isE EXCS c = true) (q : Q (.bl (isE names c)) h) : wR (oIsE names (.exc c []) h) Q E := by
  show wR (if isE EXCS c = true then _ else _) Q E
  rw [if_pos hk]
  exact wR_ok q
theorem wV_isNon {Q : Dv → MH → Prop} {E : QE} {d : Dv} (q : Q (.bl (isN d)) h) : wR (oIs d .non h) Q E := wR_ok q
theorem wV_isNotNon {Q : Dv → MH → Prop} {E : QE} {d : Dv} (q : Q (.bl (!isN d)) h) : wR (oIsNot d .non h) Q E := wR_ok q
/-- texts that are written -/
theorem pyEq_str {a b : Str} (ha : PyData.strOk a = true) (hb : PyData.strOk b = true) : pyEq h (.str a) (.str b) = some (a == b) := by
  unfold pyEq pyOf
  rw [if_pos ha, if_pos hb]
  simp only [PyData.eqv]
end
/-! ### a class of the text, asked -/
theorem kit_own {K : PySem.W.Frag} {C : Addr} {t : Value} {b : Bool} (hd : PySem.W.hasDictIn K C = true) (ht : PySem.W.typeIn K (.ref C) = some (.type "type")) (me : PySem.W.subIn K (.ref C) (.ref C) = some true) (hs : PySem.W.subIn K t (.ref C) = some b) : PySem.W.kitOne K t (.ref C) = some b := by
  unfold PySem.W.kitOne
  by_cases e : (t == .ref C) = true
  · rw [if_pos e]
    have e' : t = .ref C := beq_iff_eq.mp e
    rw [e', me] at hs
    exact hs
  · rw [if_neg e]
    obtain ⟨cd, hc, _⟩ := PySem.W.any_some hd
    show (if ((PySem.W.clsIn K C).isSome && PySem.W.typeIn K (.ref C) == some (.type "type")) = true then PySem.W.subIn K t (.ref C) else none) = some b
    rw [if_pos (by rw [hc, ht] <;> rfl)]
    exact hs
theorem kit_blt {K : PySem.W.Frag} {C : Addr} {T : String} {b : Bool} (hT : PySem.W.kitMeta T = true) (hs : PySem.W.subIn K (.ref C) (.type T) = some b) : PySem.W.kitOne K (.ref C) (.type T) = some b := by
  unfold PySem.W.kitOne
  rw [if_neg (by intro z; have := beq_iff_eq.mp z; cases this)]
  show (if PySem.W.kitMeta T = true then PySem.W.subIn K (.ref C) (.type T) else none) = some b
  rw [if_pos hT]
  exact hs
end L2.Mi

/-! MiCls: own classes: fields, methods, new instances. -/
namespace L2.Mi
open PySem PySem.Spec PyProof.Rows
/-- an instance's cell -/
def insOf (h : MH) : Dv → Option (Nat × Str × List (Str × Dv))
  | .obj i => match h[i]? with
    | some (.ins C fs) => some (i, C, fs)
    | _ => none
  | _ => none
def putD (f : Str) (v : Dv) : List (Str × Dv) → List (Str × Dv)
  | [] => [(f, v)]
  | p :: r => if p.1 = f then (p.1, v) :: r else p :: putD f v r
section
variable {K : PySem.W.Frag} {cl : Str → Option Addr} {ρ : Rho} {h : MH} {H : Hp}
theorem insOf_rel (hr : HRel K cl ρ h H) {d : Dv} {v : V} {i : Nat} {C : Str} {fs : List (Str × Dv)} (rd : RelD K cl ρ h H d v) (e : insOf h d = some (i, C, fs)) :
    ∃ a Ca dx vfs, v = .ref a ∧ d = .obj i ∧ ρ.map i = some a ∧ h[i]? = some (.ins C fs) ∧ cl C = some Ca ∧ H a = some (.ins Ca dx vfs) ∧ fs.map (·.1) = vfs.map (·.1) ∧ RelDs K cl ρ h H (fs.map (·.2)) (vfs.map (·.2)) := by
  cases rd with
  | @obj j a q =>
    have e : (match h[j]? with
      | some (.ins C fs) => some (j, C, fs)
      | _ => none) = some (i, C, fs) := e
    cases hj : h[j]? with
    | none => rw [hj] at e; cases e
    | some c =>
      rw [hj] at e
      cases c with
      | ins C' fs' =>
        cases e
        obtain ⟨b, hb, Ca, dx, vfs, c1, c2, c3, c4⟩ := hr.cells i _ hj
        rw [q] at hb; cases hb
        exact ⟨a, Ca, dx, vfs, rfl, rfl, q, hj, c1, c2, c3, c4⟩
      | _ => cases e
  | _ => cases e
theorem look_rel {f : Str} : ∀ {fs : List (Str × Dv)} {vfs : List (Str × V)}, fs.map (·.1) = vfs.map (·.1) → RelDs K cl ρ h H (fs.map (·.2)) (vfs.map (·.2)) →
    (∀ d, fs.lookup f = some d → ∃ v, vfs.lookup f = some v ∧ RelD K cl ρ h H d v) ∧ (fs.lookup f = none → vfs.lookup f = none)
  | [], [], _, _ => ⟨fun d e => (by cases e), fun _ => rfl⟩
  | (g, x) :: fs, (g', y) :: vfs, e, r => by
    simp only [List.map_cons, List.cons.injEq] at e
    obtain ⟨rfl, e⟩ := e
    rw [List.map_cons, List.map_cons] at r
    cases r with
    | cons r rs =>
      rw [List.lookup_cons, List.lookup_cons]
      cases hc : f == g with
      | true => exact ⟨fun d z => (by cases z; exact ⟨y, rfl, r⟩), fun z => (by cases z)⟩
      | false => exact look_rel e rs
  | [], _ :: _, e, _ => by simp at e
  | _ :: _, [], e, _ => by simp at e
theorem put_rel {f : Str} {x : Dv} {y : V} (rx : RelD K cl ρ h H x y) : ∀ {fs : List (Str × Dv)} {vfs : List (Str × V)}, fs.map (·.1) = vfs.map (·.1) → RelDs K cl ρ h H (fs.map (·.2)) (vfs.map (·.2)) →
    (putD f x fs).map (·.1) = (putF f y vfs).map (·.1) ∧ RelDs K cl ρ h H ((putD f x fs).map (·.2)) ((putF f y vfs).map (·.2))
  | [], [], _, _ => ⟨rfl, .cons rx .nil⟩
  | (g, u) :: fs, (g', w) :: vfs, e, r => by
    simp only [List.map_cons, List.cons.injEq] at e
    obtain ⟨rfl, e⟩ := e
    rw [List.map_cons, List.map_cons] at r
    cases r with
    | cons r rs =>
      unfold putD putF
      by_cases hg : g = f
      · simp only [hg, if_true]
        exact ⟨by simp only [List.map_cons, e], .cons rx rs⟩
      · simp only [if_neg hg]
        obtain ⟨i1, i2⟩ := put_rel rx e rs
        exact ⟨by simp only [List.map_cons, i1], .cons r i2⟩
  | [], _ :: _, e, _ => by simp at e
  | _ :: _, [], e, _ => by simp at e
end
/-- what these classes say of a field's name -/
structure FldT (K : PySem.W.Frag) (cl : Str → Option Addr) (cs : List Str) (f : Str) : Prop where
  ex : ∀ C Ca, isE cs C = true → cl C = some Ca → Cls K Ca ∧ NoAttr K Ca f
def eFld (cs : List Str) (f : Str) (m : ME) : ME := fun τ h => (m τ h).bind fun d h1 => match insOf h1 d with
  | some (_, C, fs) => if isE cs C = true then (match fs.lookup f with
    | some x => .ok x h1
    | none => .stuck) else .stuck
  | none => .stuck
def sFldSet (cs : List Str) (f : Str) (m mo : ME) : MS := fun τ h => (m τ h).toS τ fun v h1 => (mo τ h1).toS τ fun o h2 => match insOf h2 o with
  | some (i, C, fs) => if (isE cs C && decide (fs.length < 1000)) = true then .nx τ (h2.set i (.ins C (putD f v fs))) else .stuck
  | none => .stuck
section
variable {X : Cx} {cl : Str → Option Addr} {W : WX} {o e : Expr} {m mo : ME} {f : Str} {cs : List Str} {pos pos' : Pos}
theorem je_fld (T : FldT X.K cl cs f) (he : JE cl W X e m) (hb : attributeBase e f X.env (eval e X.env) = eval e X.env := by rfl) : JE cl W X (.Attribute e f pos) (eFld cs f m) := by
  refine pe_imp (pe_fld he hb) fun σ H Q q => ?_
  refine tM_bind (R1 := RD X.K cl) (f := fun _ d h1 => match insOf h1 d with
    | some (_, C, fs) => if isE cs C = true then (match fs.lookup f with
      | some x => .ok x h1
      | none => .stuck) else .stuck
    | none => .stuck) q fun τ ρ1 h1 H1 d v hr1 er1 r1 p1 => ?_
  cases ei : insOf h1 d with
  | none => simp only [ei] at p1; exact p1.elim
  | some c =>
    obtain ⟨i, C, fs⟩ := c
    simp only [ei] at p1
    obtain ⟨a, Ca, dx, vfs, rfl, rfl, c0, c1, c2, c3, c4, c5⟩ := insOf_rel hr1 r1 ei
    split at p1
    · rename_i hc
      cases el : fs.lookup f with
      | none => simp only [el] at p1; exact p1.elim
      | some x =>
        simp only [el] at p1
        obtain ⟨y, ey, ry⟩ := (look_rel c4 c5).1 x el
        obtain ⟨k1, k2⟩ := T.ex C Ca hc c2
        exact ⟨a, Ca, dx, vfs, y, rfl, c3, k1, k2, ey, p1 ρ1 H1 y hr1 (.refl _ _ _) ry⟩
    · exact p1.elim
theorem js_fld (T : FldT X.K cl cs f) (he : JE cl W X e m) (ho : JE cl W X o mo) (hs : swapsWith e (some (.Attribute o f pos')) pos.line X.env = pure false := by rfl) : JS cl W X (.Assign [.Attribute o f pos'] e pos) (sFldSet cs f m mo) := by
  refine ps_imp (ps_fld ho he hs) fun D σ H q => ?_
  refine tS_bind (R1 := RD X.K cl) (k := fun τ v h1 => (mo τ h1).toS τ fun o h2 => match insOf h2 o with
    | some (i, C, fs) => if (isE cs C && decide (fs.length < 1000)) = true then .nx τ (h2.set i (.ins C (putD f v fs))) else .stuck
    | none => .stuck) q fun τ ρ1 h1 H1 d v hr1 er1 r1 p1 => ?_
  refine ⟨τ, ρ1, h1, hr1, er1, PostS.bind er1 p1 fun od h2 ρ2 H2 ov hr2 e2 r2 p2 => ?_⟩
  cases ei : insOf h2 od with
  | none => simp only [ei] at p2; exact p2.elim
  | some c =>
    obtain ⟨i, C, fs⟩ := c
    simp only [ei] at p2
    obtain ⟨a, Ca, dx, vfs, rfl, rfl, c0, c1, c2, c3, c4, c5⟩ := insOf_rel hr2 r2 ei
    split at p2
    · rename_i hc
      rw [Bool.and_eq_true] at hc
      obtain ⟨k1, k2⟩ := T.ex C Ca hc.1 c2
      have hl : vfs.length = fs.length := by have := congrArg List.length c4; simpa using this.symm
      refine ⟨a, Ca, dx, vfs, rfl, c3, k1, k2, by rw [hl]; exact of_decide_eq_true hc.2, ?_⟩
      obtain ⟨w1, w2⟩ := hr2.write (c' := .ins C (putD f d fs)) (o := .ins Ca dx (putF f v vfs)) c1 rfl c0 fun ee => by
        obtain ⟨z1, z2⟩ := put_rel (f := f) ((r1.mono e2).mono ee) c4 (c5.mono ee)
        exact ⟨Ca, dx, _, c2, upd_same, z1, z2⟩
      exact p2 ρ2 _ σ w1 w2 ((er1.mono e2).mono w2)
    · exact p2.elim
end
/-! ### C(e, .., k = v, ..) -/
def eMake (c : Str) (n m : Nat) (gD : List Dv → List Dv → List Dv) (f : MF) (ms mk : MA) : ME := fun τ h => (ms τ h).bind fun ds h1 => (mk τ h1).bind fun zs h2 => if ds.length = n ∧ zs.length = m then
    (match f (gD (.obj h2.length :: ds) zs) (h2 ++ [.ins c []]) with
    | .ok .non h3 => .ok (.obj h2.length) h3
    | .err k xs h3 => .err k xs h3
    | _ => .stuck) else .stuck
section
variable {X : Cx} {cl : Str → Option Addr} {W : WX} {k n nf : Nat} {f C : Addr} {fd : FuncData} {ps ks : List Str} {fm : MF} {x c : Str} {p pos kpos : Pos} {e : Expr} {es : List Expr} {kws : List Keyword} {me : ME} {ms mk : MA} {g : List Value → List Value → List Value} {gV : List V → List V → List V} {gD : List Dv → List Dv → List Dv}
theorem make_of {σ : St} {H : Hp} {Q : VK} (hcl : cl c = some C) (hg : KRel X.K cl (n + 1) ks.length gV gD) (hnf : ∀ ds zs, ds.length = n + 1 → zs.length = ks.length → (gD ds zs).length = nf) (q : tM X.K cl (RD X.K cl) W (eMake c n ks.length gD fm ms mk) σ H Q) :
    tM X.K cl (RDs X.K cl) W ms σ H fun vs H1 => tM X.K cl (RDs X.K cl) W mk σ H1 fun zs H2 => vs.length = n ∧ zs.length = ks.length ∧ ∀ y dy, H2 y = none → H2 dy = none → dy ≠ y →
      spM X.K cl nf fm (gV (.ref y :: vs) zs) (upd (upd H2 dy (.own y)) y (.ins C dy [])) (fun v H3 => v = .non ∧ Q (.ref y) H3) (WE W σ) := by
  refine tM_bind (R1 := RDs X.K cl) (f := fun τ ds h1 => (mk τ h1).bind fun zs h2 => if ds.length = n ∧ zs.length = ks.length then
    (match fm (gD (Dv.obj h2.length :: ds) zs) (h2 ++ [Cell.ins c []]) with
    | .ok .non h3 => Res.ok (Dv.obj h2.length) h3
    | .err k xs h3 => .err k xs h3
    | _ => .stuck) else .stuck) q fun τ ρ1 h1 H1 ds vs hr1 er1 r1 p1 => ?_
  refine ⟨τ, ρ1, h1, hr1, er1, Post.bind p1 fun zs h2 ρ2 H2 us hr2 e2 r2 p2 => ?_⟩
  split at p2
  · rename_i hl
    refine ⟨by rw [← r1.length]; exact hl.1, by rw [← r2.length]; exact hl.2, fun y dy hy hdy ne => ?_⟩
    obtain ⟨w1, w2⟩ := hr2.push (H' := upd (upd H2 dy (.own y)) y (.ins C dy [])) (c := .ins c []) hy (fun b o eb => by rw [upd_ne (ne_of_none eb hy), upd_ne (ne_of_none eb hdy)]; exact eb)
      fun _ => ⟨C, dy, [], hcl, upd_same, rfl, .nil⟩
    have ro : RelD X.K cl (Rho.push ρ2 h2.length y) (h2 ++ [.ins c []]) (upd (upd H2 dy (.own y)) y (.ins C dy [])) (.obj h2.length) (.ref y) := .obj Rho.push_same
    have l1 : (Dv.obj h2.length :: ds).length = n + 1 := congrArg Nat.succ hl.1
    refine ⟨_, _, _, w1, hg _ _ _ _ _ _ _ l1 hl.2 (.cons ro ((r1.mono e2).mono w2)) (r2.mono w2), hnf _ _ l1 hl.2, ?_⟩
    have p2 := p2.later w2
    cases ef : fm (gD (.obj h2.length :: ds) zs) (h2 ++ [.ins c []]) with
    | stuck => rw [ef] at p2; exact p2.elim
    | err k xs h3 => rw [ef] at p2; exact p2
    | ok d h3 =>
      rw [ef] at p2
      cases d with
      | non =>
        intro ρ3 H3 b hr3 e3 r3
        exact ⟨r3.nonOf, p2 ρ3 H3 (.ref y) hr3 e3 (.obj (e3.rho _ _ Rho.push_same))⟩
      | _ => exact p2.elim
  · exact p2.elim
theorem je_make (M : Mk X.K C f) (hcl : cl c = some C) (F : FnOk X.prog X.w X.K X.mg X.base (L2.CX X.prog X.w) k f fd ps (spM X.K cl nf fm)) (hr : Room (k + 1) X.A) (hg : Gl X x) (hm : X.mg x = some (.ref C)) (hb : KBn X.K fd ps (n + 1) ks g gV)
    (hgr : KRel X.K cl (n + 1) ks.length gV gD) (hnf : ∀ ds zs, ds.length = n + 1 → zs.length = ks.length → (gD ds zs).length = nf) (tk : Takes X W)
    (ha : JA cl W X (e :: es) ms) (hkw : JK cl W X kws mk) (hall : (backToKw pos (keywordEach kws X.env)).all (·.1.isSome) = true := by rfl) (hks : (backToKw pos (keywordEach kws X.env)).filterMap (·.1) = ks := by rfl)
    (hdb : (x == ("__debug__" : Str)) = false := by decide) (he : starEach (e :: es) X.env = (false, eval e X.env) :: starEach es X.env := by rfl)
    (hpl : ((backTo pos (starEach (e :: es) X.env)).any (·.1) || (backToKw pos (keywordEach kws X.env)).any (·.1.isNone)) = false := by rfl) :
    JE cl W X (.Call (.Name x p) (e :: es) kws pos) (eMake c n ks.length gD fm ms mk) := by
  constructor
  intro pins s σ H Q I hyp
  refine wpAny_Call_Name_kw (ld_glob I hg hm ?_ hdb)
  refine PySem.W.callWith_KW (h₀ := X.base) I.ok.mod.kin M.kp hall (thn (ha.run pos pins s σ H _ I (make_of hcl hgr hnf hyp)) fun us s1 ⟨vs, H1, I1, r, q⟩ => ?_) hpl he
  refine thn (hkw.run pos pins s1 σ H1 _ I1 q) fun ws s2 ⟨zs, H2, I2, rz, l1, l2, q2⟩ => ⟨I2.kIn, ?_⟩
  rw [hks]
  exact run_makeNS M F hr hb (passAt tk σ) I2 r rz l1 l2 q2
theorem je_make0 (M : Mk X.K C f) (hcl : cl c = some C) (F : FnOk X.prog X.w X.K X.mg X.base (L2.CX X.prog X.w) k f fd ps (spM X.K cl nf fm)) (hr : Room (k + 1) X.A) (hg : Gl X x) (hm : X.mg x = some (.ref C)) (hb : KBn X.K fd ps 1 ks g gV)
    (hgr : KRel X.K cl 1 ks.length gV gD) (hnf : ∀ ds zs, ds.length = 1 → zs.length = ks.length → (gD ds zs).length = nf) (tk : Takes X W)
    (hkw : JK cl W X kws mk) (hall : (backToKw pos (keywordEach kws X.env)).all (·.1.isSome) = true := by rfl) (hks : (backToKw pos (keywordEach kws X.env)).filterMap (·.1) = ks := by rfl)
    (hdb : (x == ("__debug__" : Str)) = false := by decide)
    (hpl : ((backTo pos (starEach [] X.env)).any (·.1) || (backToKw pos (keywordEach kws X.env)).any (·.1.isNone)) = false := by rfl) :
    JE cl W X (.Call (.Name x p) [] kws pos) (eMake c 0 ks.length gD fm aNil mk) := by
  constructor
  intro pins s σ H Q I hyp
  refine wpAny_Call_Name_kw (ld_glob I hg hm ?_ hdb)
  refine PySem.W.callWith_KW0 (h₀ := X.base) I.ok.mod.kin M.kp hall ?_ hpl
  obtain ⟨τ, ρ, h, hr1, er, p⟩ := make_of hcl hgr hnf hyp
  refine thn (hkw.run pos pins s σ H _ I (p ρ H [] hr1 (.refl _ _ _) .nil)) fun ws s2 ⟨zs, H2, I2, rz, l1, l2, q2⟩ => ⟨I2.kIn, ?_⟩
  rw [hks]
  exact run_makeNS (n := 0) (us := []) (vs := []) M F hr hb (passAt tk σ) I2 .nil rz rfl l2 q2
end
/-! ### o.m(e, .., k = v, ..) -/
def eObj (cs : List Str) (m : Str) (n nk : Nat) (gD : List Dv → List Dv → List Dv) (f : MF) (mo : ME) (ms mk : MA) : ME := fun τ h => (mo τ h).bind fun d h1 => match insOf h1 d with
  | some (_, C, fs) => if (isE cs C && (fs.lookup m).isNone) = true then ((ms τ h1).bind fun ds h2 => (mk τ h2).bind fun zs h3 => if ds.length = n ∧ zs.length = nk then f (gD (d :: ds) zs) h3 else .stuck) else .stuck
  | none => .stuck
structure MthT (K : PySem.W.Frag) (cl : Str → Option Addr) (cs : List Str) (m : Str) (f : Addr) : Prop where
  ex : ∀ C Ca, isE cs C = true → cl C = some Ca → Cls K Ca ∧ Meth K Ca m f
section
variable {X : Cx} {cl : Str → Option Addr} {W : WX} {k n nf : Nat} {f : Addr} {fd : FuncData} {ps ks cs : List Str} {fm : MF} {m : Str} {apos pos kpos : Pos} {o e : Expr} {es : List Expr} {kws : List Keyword} {mo : ME} {ms mk : MA} {g : List Value → List Value → List Value} {gV : List V → List V → List V} {gD : List Dv → List Dv → List Dv}
theorem obj_of {σ : St} {H : Hp} {Q : VK} (hg : KRel X.K cl (n + 1) ks.length gV gD) (hnf : ∀ ds zs, ds.length = n + 1 → zs.length = ks.length → (gD ds zs).length = nf) (q : tM X.K cl (RD X.K cl) W (eObj cs m n ks.length gD fm mo ms mk) σ H Q) :
    tM X.K cl (RD X.K cl) W mo σ H fun v H0 => ∃ a C Ca dx vfs, v = .ref a ∧ isE cs C = true ∧ cl C = some Ca ∧ H0 a = some (.ins Ca dx vfs) ∧ vfs.lookup m = none ∧
      tM X.K cl (RDs X.K cl) W ms σ H0 fun vs H1 => tM X.K cl (RDs X.K cl) W mk σ H1 fun zs H2 => vs.length = n ∧ zs.length = ks.length ∧ spM X.K cl nf fm (gV (.ref a :: vs) zs) H2 Q (WE W σ) := by
  refine tM_bind (R1 := RD X.K cl) (f := fun τ d h1 => match insOf h1 d with
    | some (_, C, fs) => if (isE cs C && (fs.lookup m).isNone) = true then ((ms τ h1).bind fun ds h2 => (mk τ h2).bind fun zs h3 => if ds.length = n ∧ zs.length = ks.length then fm (gD (d :: ds) zs) h3 else .stuck) else .stuck
    | none => .stuck) q fun τ ρ0 h0 H0 d v hr0 er0 r0 p0 => ?_
  cases ei : insOf h0 d with
  | none => simp only [ei] at p0; exact p0.elim
  | some c =>
    obtain ⟨i, C, fs⟩ := c
    simp only [ei] at p0
    obtain ⟨a, Ca, dx, vfs, rfl, rfl, c0, c1, c2, c3, c4, c5⟩ := insOf_rel hr0 r0 ei
    split at p0
    · rename_i hc
      rw [Bool.and_eq_true] at hc
      refine ⟨a, C, Ca, dx, vfs, rfl, hc.1, c2, c3, (look_rel c4 c5).2 (by simpa using hc.2), ?_⟩
      refine ⟨τ, ρ0, h0, hr0, er0, Post.bind p0 fun ds h1 ρ1 H1 vs hr1 e1 r1 p1 => ?_⟩
      refine ⟨τ, ρ1, h1, hr1, er0.mono e1, Post.bind p1 fun zs h2 ρ2 H2 us hr2 e2 r2 p2 => ?_⟩
      split at p2
      · rename_i hl
        have l1 : (Dv.obj i :: ds).length = n + 1 := congrArg Nat.succ hl.1
        exact ⟨by rw [← r1.length]; exact hl.1, by rw [← r2.length]; exact hl.2, _, ρ2, h2, hr2, hg ρ2 h2 H2 _ _ _ _ l1 hl.2 (.cons ((r0.mono e1).mono e2) (r1.mono e2)) r2, hnf _ _ l1 hl.2, p2.sig⟩
      · exact p2.elim
    · exact p0.elim
theorem je_obj {pl : Sem Bool} (T : MthT X.K cl cs m f) (F : FnOk X.prog X.w X.K X.mg X.base (L2.CX X.prog X.w) k f fd ps (spM X.K cl nf fm)) (hr : Room k X.A) (hb : KBn X.K fd ps (n + 1) ks g gV)
    (hgr : KRel X.K cl (n + 1) ks.length gV gD) (hnf : ∀ ds zs, ds.length = n + 1 → zs.length = ks.length → (gD ds zs).length = nf) (tk : Takes X W) (ho : JE cl W X o mo)
    (ha : JA cl W X (e :: es) ms) (hkw : JK cl W X kws mk) (hall : (backToKw pos (keywordEach kws X.env)).all (·.1.isSome) = true := by rfl) (hks : (backToKw pos (keywordEach kws X.env)).filterMap (·.1) = ks := by rfl)
    (he : starEach (e :: es) X.env = (false, eval e X.env) :: starEach es X.env := by rfl)
    (hpl : ((backTo pos (starEach (e :: es) X.env)).any (·.1) || (backToKw pos (keywordEach kws X.env)).any (·.1.isNone)) = false := by rfl)
    (ht : eval (.Call (.Attribute o m apos) (e :: es) kws pos) X.env = (do
      let rv ← eval o X.env
      standAt apos.atName
      let (fn, fst) ← holding [rv] (getMethod rv m pl)
      callWith pos fn fst (backTo pos (starEach (e :: es) X.env)) (backToKw pos (keywordEach kws X.env))) := by rfl) :
    JE cl W X (.Call (.Attribute o m apos) (e :: es) kws pos) (eObj cs m n ks.length gD fm mo ms mk) := by
  constructor
  intro pins s σ H Q I hyp
  refine PySem.W.methodCall_KW (pl := pl) (thn (ho.run pins s σ H _ I (obj_of hgr hnf hyp)) fun u s1 ⟨v, H1, I1, rv, a, C, Ca, dx, vfs, ev, hC, hcl, hH, hl, q⟩ => ?_) ht
  subst ev
  obtain rfl : u = Value.ref a := rv
  obtain ⟨k1, k2⟩ := T.ex C Ca hC hcl
  refine getmeth_ok I1 hH k1 k2 hl ?_
  refine PySem.W.callWith_KW (first := [.ref a]) (h₀ := X.base) I.ok.mod.kin k2.kp hall (thn (ha.run pos pins s1 σ H1 _ I1 q) fun us s2 ⟨vs, H2, I2, r, q⟩ => ?_) hpl he
  refine thn (hkw.run pos pins s2 σ H2 _ I2 q) fun ws s3 ⟨zs, H3, I3, rz, l1, l2, q3⟩ => ⟨I3.kIn, ?_⟩
  rw [hks]
  exact run_fnNS (us := .ref a :: us) (vs := .ref a :: vs) F hr hb (passAt tk σ) I3 (.cons rfl r) rz (congrArg Nat.succ l1) l2 q3
theorem je_obj0 {pl : Sem Bool} (T : MthT X.K cl cs m f) (F : FnOk X.prog X.w X.K X.mg X.base (L2.CX X.prog X.w) k f fd ps (spM X.K cl nf fm)) (hr : Room k X.A) (hb : KBn X.K fd ps 1 ks g gV)
    (hgr : KRel X.K cl 1 ks.length gV gD) (hnf : ∀ ds zs, ds.length = 1 → zs.length = ks.length → (gD ds zs).length = nf) (tk : Takes X W) (ho : JE cl W X o mo)
    (hkw : JK cl W X kws mk) (hall : (backToKw pos (keywordEach kws X.env)).all (·.1.isSome) = true := by rfl) (hks : (backToKw pos (keywordEach kws X.env)).filterMap (·.1) = ks := by rfl)
    (hpl : ((backTo pos (starEach [] X.env)).any (·.1) || (backToKw pos (keywordEach kws X.env)).any (·.1.isNone)) = false := by rfl)
    (ht : eval (.Call (.Attribute o m apos) [] kws pos) X.env = (do
      let rv ← eval o X.env
      standAt apos.atName
      let (fn, fst) ← holding [rv] (getMethod rv m pl)
      callWith pos fn fst (backTo pos (starEach [] X.env)) (backToKw pos (keywordEach kws X.env))) := by rfl) :
    JE cl W X (.Call (.Attribute o m apos) [] kws pos) (eObj cs m 0 ks.length gD fm mo aNil mk) := by
  constructor
  intro pins s σ H Q I hyp
  refine PySem.W.methodCall_KW (pl := pl) (thn (ho.run pins s σ H _ I (obj_of (n := 0) hgr hnf hyp)) fun u s1 ⟨v, H1, I1, rv, a, C, Ca, dx, vfs, ev, hC, hcl, hH, hl, q⟩ => ?_) ht
  subst ev
  obtain rfl : u = Value.ref a := rv
  obtain ⟨k1, k2⟩ := T.ex C Ca hC hcl
  refine getmeth_ok I1 hH k1 k2 hl ?_
  refine PySem.W.callWith_KW0 (first := [.ref a]) (h₀ := X.base) I.ok.mod.kin k2.kp hall ?_ hpl
  obtain ⟨τ, ρ, h, hr1, er, p⟩ := q
  refine thn (hkw.run pos pins s1 σ H1 _ I1 (p ρ H1 [] hr1 (.refl _ _ _) .nil)) fun ws s3 ⟨zs, H3, I3, rz, l1, l2, q3⟩ => ⟨I3.kIn, ?_⟩
  rw [hks]
  exact run_fnNS (n := 1) (us := [.ref a]) (vs := [.ref a]) F hr hb (passAt tk σ) I3 (.cons rfl .nil) rz rfl l2 q3
end
/-! ### what a program's text says of its classes -/
structure MtAt (P : Program) (w : World) (K : PySem.W.Frag) (mg : Str → Option Value) (base : Heap) (cl : Str → Option Addr) (cs : List Str) (m qual : Str) (st : Stmt) (dvs : List V) (kws : List (Str × V)) (k n : Nat) (ps : List Str) (M : MF) : Prop where
  ex : ∃ f fd, MthT K cl cs m f ∧ FunD K m qual (defArgs st) (defBody st) (defScope st) dvs kws f fd ∧ FnOk P w K mg base (L2.CX P w) k f fd ps (spM K cl n M)
structure MkAt (P : Program) (w : World) (K : PySem.W.Frag) (mg : Str → Option Value) (base : Heap) (cl : Str → Option Addr) (c qual : Str) (st : Stmt) (dvs : List V) (kws : List (Str × V)) (k n : Nat) (ps : List Str) (M : MF) : Prop where
  ex : ∃ C f fd, cl c = some C ∧ mg c = some (.ref C) ∧ Mk K C f ∧ FunD K "__init__" qual (defArgs st) (defBody st) (defScope st) dvs kws f fd ∧ FnOk P w K mg base (L2.CX P w) k f fd ps (spM K cl n M)
section
variable {X : Cx} {cl : Str → Option Addr} {W : WX} {k n nf : Nat} {st : Stmt} {dvs : List V} {kwd : List (Str × V)} {ps ks cs : List Str} {fm : MF} {x m qual : Str} {apos p pos kpos : Pos} {o e : Expr} {es : List Expr} {kws : List Keyword} {mo : ME} {ms mk : MA} {gV : List V → List V → List V} {gD : List Dv → List Dv → List Dv}
theorem je_mk (G : MkAt X.prog X.w X.K X.mg X.base cl x qual st dvs kwd k nf ps fm) (hb : ∀ f fd, FunD X.K "__init__" qual (defArgs st) (defBody st) (defScope st) dvs kwd f fd → ∃ g, KBn X.K fd ps (n + 1) ks g gV)
    (hgr : KRel X.K cl (n + 1) ks.length gV gD) (hnf : ∀ ds zs, ds.length = n + 1 → zs.length = ks.length → (gD ds zs).length = nf) (hr : Room (k + 1) X.A) (hg : Gl X x) (tk : Takes X W)
    (ha : JA cl W X (e :: es) ms) (hkw : JK cl W X kws mk) (hall : (backToKw pos (keywordEach kws X.env)).all (·.1.isSome) = true := by rfl) (hks : (backToKw pos (keywordEach kws X.env)).filterMap (·.1) = ks := by rfl)
    (hdb : (x == ("__debug__" : Str)) = false := by decide) (he : starEach (e :: es) X.env = (false, eval e X.env) :: starEach es X.env := by rfl)
    (hpl : ((backTo pos (starEach (e :: es) X.env)).any (·.1) || (backToKw pos (keywordEach kws X.env)).any (·.1.isNone)) = false := by rfl) :
    JE cl W X (.Call (.Name x p) (e :: es) kws pos) (eMake x n ks.length gD fm ms mk) := by
  obtain ⟨C, f, fd, h1, h2, h3, h4, h5⟩ := G.ex
  obtain ⟨g, b⟩ := hb f fd h4
  exact je_make h3 h1 h5 hr hg h2 b hgr hnf tk ha hkw hall hks hdb he hpl
theorem je_mk0 (G : MkAt X.prog X.w X.K X.mg X.base cl x qual st dvs kwd k nf ps fm) (hb : ∀ f fd, FunD X.K "__init__" qual (defArgs st) (defBody st) (defScope st) dvs kwd f fd → ∃ g, KBn X.K fd ps 1 ks g gV)
    (hgr : KRel X.K cl 1 ks.length gV gD) (hnf : ∀ ds zs, ds.length = 1 → zs.length = ks.length → (gD ds zs).length = nf) (hr : Room (k + 1) X.A) (hg : Gl X x) (tk : Takes X W)
    (hkw : JK cl W X kws mk) (hall : (backToKw pos (keywordEach kws X.env)).all (·.1.isSome) = true := by rfl) (hks : (backToKw pos (keywordEach kws X.env)).filterMap (·.1) = ks := by rfl)
    (hdb : (x == ("__debug__" : Str)) = false := by decide)
    (hpl : ((backTo pos (starEach [] X.env)).any (·.1) || (backToKw pos (keywordEach kws X.env)).any (·.1.isNone)) = false := by rfl) :
    JE cl W X (.Call (.Name x p) [] kws pos) (eMake x 0 ks.length gD fm aNil mk) := by
  obtain ⟨C, f, fd, h1, h2, h3, h4, h5⟩ := G.ex
  obtain ⟨g, b⟩ := hb f fd h4
  exact je_make0 h3 h1 h5 hr hg h2 b hgr hnf tk hkw hall hks hdb hpl
theorem je_mt {pl : Sem Bool} (G : MtAt X.prog X.w X.K X.mg X.base cl cs m qual st dvs kwd k nf ps fm) (hb : ∀ f fd, FunD X.K m qual (defArgs st) (defBody st) (defScope st) dvs kwd f fd → ∃ g, KBn X.K fd ps (n + 1) ks g gV)
    (hgr : KRel X.K cl (n + 1) ks.length gV gD) (hnf : ∀ ds zs, ds.length = n + 1 → zs.length = ks.length → (gD ds zs).length = nf) (hr : Room k X.A) (tk : Takes X W) (ho : JE cl W X o mo)
    (ha : JA cl W X (e :: es) ms) (hkw : JK cl W X kws mk) (hall : (backToKw pos (keywordEach kws X.env)).all (·.1.isSome) = true := by rfl) (hks : (backToKw pos (keywordEach kws X.env)).filterMap (·.1) = ks := by rfl)
    (he : starEach (e :: es) X.env = (false, eval e X.env) :: starEach es X.env := by rfl)
    (hpl : ((backTo pos (starEach (e :: es) X.env)).any (·.1) || (backToKw pos (keywordEach kws X.env)).any (·.1.isNone)) = false := by rfl)
    (ht : eval (.Call (.Attribute o m apos) (e :: es) kws pos) X.env = (do
      let rv ← eval o X.env
      standAt apos.atName
      let (fn, fst) ← holding [rv] (getMethod rv m pl)
      callWith pos fn fst (backTo pos (starEach (e :: es) X.env)) (backToKw pos (keywordEach kws X.env))) := by rfl) :
    JE cl W X (.Call (.Attribute o m apos) (e :: es) kws pos) (eObj cs m n ks.length gD fm mo ms mk) := by
  obtain ⟨f, fd, h1, h2, h3⟩ := G.ex
  obtain ⟨g, b⟩ := hb f fd h2
  exact je_obj h1 h3 hr b hgr hnf tk ho ha hkw hall hks he hpl ht
theorem je_mt0 {pl : Sem Bool} (G : MtAt X.prog X.w X.K X.mg X.base cl cs m qual st dvs kwd k nf ps fm) (hb : ∀ f fd, FunD X.K m qual (defArgs st) (defBody st) (defScope st) dvs kwd f fd → ∃ g, KBn X.K fd ps 1 ks g gV)
    (hgr : KRel X.K cl 1 ks.length gV gD) (hnf : ∀ ds zs, ds.length = 1 → zs.length = ks.length → (gD ds zs).length = nf) (hr : Room k X.A) (tk : Takes X W) (ho : JE cl W X o mo)
    (hkw : JK cl W X kws mk) (hall : (backToKw pos (keywordEach kws X.env)).all (·.1.isSome) = true := by rfl) (hks : (backToKw pos (keywordEach kws X.env)).filterMap (·.1) = ks := by rfl)
    (hpl : ((backTo pos (starEach [] X.env)).any (·.1) || (backToKw pos (keywordEach kws X.env)).any (·.1.isNone)) = false := by rfl)
    (ht : eval (.Call (.Attribute o m apos) [] kws pos) X.env = (do
      let rv ← eval o X.env
      standAt apos.atName
      let (fn, fst) ← holding [rv] (getMethod rv m pl)
      callWith pos fn fst (backTo pos (starEach [] X.env)) (backToKw pos (keywordEach kws X.env))) := by rfl) :
    JE cl W X (.Call (.Attribute o m apos) [] kws pos) (eObj cs m 0 ks.length gD fm mo aNil mk) := by
  obtain ⟨f, fd, h1, h2, h3⟩ := G.ex
  obtain ⟨g, b⟩ := hb f fd h2
  exact je_obj0 h1 h3 hr b hgr hnf tk ho hkw hall hks hpl ht
end
/-! ### what a run must show -/
section
variable {Q : Dv → MH → Prop} {E : QE} {D : Ew} {τ : MEnv} {h : MH}
theorem wE_fld {cs : List Str} {f : Str} {m : ME} (w : wR (m τ h) (fun d h1 => ∃ i C fs x, insOf h1 d = some (i, C, fs) ∧ isE cs C = true ∧ fs.lookup f = some x ∧ Q x h1) E) : wR (eFld cs f m τ h) Q E := by
  refine wR_bind (wR_mono w (fun d h1 w => ?_) fun _ _ _ e => e)
  obtain ⟨i, C, fs, x, e1, e2, e3, q⟩ := w
  simp only [e1, e2, e3, if_true]
  exact wR_ok q
theorem wS_fld {cs : List Str} {f : Str} {m mo : ME} (w : wR (m τ h) (fun v h1 => wR (mo τ h1) (fun o h2 => ∃ i C fs, insOf h2 o = some (i, C, fs) ∧ isE cs C = true ∧ fs.length < 1000 ∧ D.N τ (h2.set i (.ins C (putD f v fs)))) (fun c xs h1 => D.E c xs τ h1)) (fun c xs h1 => D.E c xs τ h1)) : wS (sFldSet cs f m mo τ h) D := by
  refine wS_toS (wR_mono w (fun v h1 w => wS_toS (wR_mono w (fun o h2 w => ?_) fun _ _ _ e => e)) fun _ _ _ e => e)
  obtain ⟨i, C, fs, e1, e2, e3, q⟩ := w
  simp only [e1, e2, decide_eq_true e3, Bool.and_self, if_true]
  with_unfolding_all exact q
theorem wE_make {c : Str} {n m : Nat} {gD : List Dv → List Dv → List Dv} {f : MF} {ms mk : MA}
    (w : wR (ms τ h) (fun ds h1 => wR (mk τ h1) (fun zs h2 => (ds.length = n ∧ zs.length = m) ∧ wR (f (gD (.obj h2.length :: ds) zs) (h2 ++ [.ins c []])) (fun d h3 => d = .non ∧ Q (.obj h2.length) h3) E) E) E) : wR (eMake c n m gD f ms mk τ h) Q E := by
  refine wR_bind (wR_mono w (fun ds h1 w => wR_bind (wR_mono w (fun zs h2 w => ?_) fun _ _ _ e => e)) fun _ _ _ e => e)
  rw [if_pos w.1]
  have w := w.2
  cases ef : f (gD (.obj h2.length :: ds) zs) (h2 ++ [.ins c []]) with
  | stuck => rw [ef] at w; with_unfolding_all exact w
  | err k xs h3 => rw [ef] at w; with_unfolding_all exact w
  | ok d h3 =>
    rw [ef] at w
    have w : d = .non ∧ Q (.obj h2.length) h3 := by with_unfolding_all exact w
    obtain ⟨rfl, q⟩ := w
    exact wR_ok q
theorem wE_obj {cs : List Str} {m : Str} {n nk : Nat} {gD : List Dv → List Dv → List Dv} {f : MF} {mo : ME} {ms mk : MA}
    (w : wR (mo τ h) (fun d h1 => ∃ i C fs, insOf h1 d = some (i, C, fs) ∧ isE cs C = true ∧ fs.lookup m = none ∧ wR (ms τ h1) (fun ds h2 => wR (mk τ h2) (fun zs h3 => (ds.length = n ∧ zs.length = nk) ∧ wR (f (gD (d :: ds) zs) h3) Q E) E) E) E) : wR (eObj cs m n nk gD f mo ms mk τ h) Q E := by
  refine wR_bind (wR_mono w (fun d h1 w => ?_) fun _ _ _ e => e)
  obtain ⟨i, C, fs, e1, e2, e3, w⟩ := w
  simp only [e1, e2, e3, Option.isNone_none, Bool.and_self, if_true]
  refine wR_bind (wR_mono w (fun ds h1 w => wR_bind (wR_mono w (fun zs h2 w => ?_) fun _ _ _ e => e)) fun _ _ _ e => e)
  rw [if_pos w.1]
  exact w.2
end
end L2.Mi

/-! MiMore: a comprehension within a comprehension. -/
namespace L2.Mi
open PySem PySem.Spec PyProof.Rows
theorem relabel_free {env : Env} {x : Str} : ∀ {names : List (Str × NameKind)}, names.lookup x = some .cell ∨ names.lookup x = some .free →
    (names.map fun (n, k) => if (k == NameKind.free && env.scope.kind == .function && env.kindOf n == some .cell) then (n, NameKind.cell) else (n, k)).lookup x = some .cell ∨
    (names.map fun (n, k) => if (k == NameKind.free && env.scope.kind == .function && env.kindOf n == some .cell) then (n, NameKind.cell) else (n, k)).lookup x = some .free
  | [], h => by simp at h
  | (n, k) :: r, h => by
    have ih := fun z => relabel_free (env := env) (x := x) (names := r) z
    rw [List.map_cons]
    by_cases hx : x = n
    · subst hx
      have hk : k = .cell ∨ k = .free := by simpa [List.lookup_cons] using h
      dsimp only
      by_cases hc : (k == NameKind.free && env.scope.kind == .function && env.kindOf x == some .cell) = true
      · rw [if_pos hc]
        left
        simp [List.lookup_cons]
      · rw [if_neg hc]
        rcases hk with rfl | rfl
        · left; simp [List.lookup_cons]
        · right; simp [List.lookup_cons]
    · have hb : (x == n) = false := by simpa using hx
      have h' : r.lookup x = some .cell ∨ r.lookup x = some .free := by
        rw [List.lookup_cons, hb] at h
        exact h
      dsimp only
      split <;> (rw [List.lookup_cons, hb]; exact ih h')
theorem blkOk_in {N : List Str} {sc scope : Scope} {own : List (Str × Nat)} {cls : List (Str × Addr)} {C : Addr} {env : Env} (h : blkC N sc scope own = true) : BlkOk N (compEnvC sc cls C env).scope scope own := by
  obtain ⟨a, b, c, d, e⟩ := blkOk_by h
  exact ⟨a, b, c, fun y hy z => relabel_free (d y hy z), e⟩
end L2.Mi

/-! MiZip: two tuples side by side. -/
namespace L2.Mi
open PySem PySem.Spec PyProof.Rows
def zipD (xs ys : List Dv) : List Dv := List.zipWith (fun x y => .tup [x, y]) xs ys
section
variable {X : Cx} {cl : Str → Option Addr} {W : WX}
theorem itz_ok {K : PySem.W.Frag} {ρ₀ : Rho} {h₀ : MH} {H₀ : Hp} {a b : Addr} {vs us : List V} {ds es : List Dv} (qa : (H₀ a = some (.tup vs) ∧ ¬ Live ρ₀ h₀ a) ∨ (KT K a vs ∧ vs = [])) (ra : RelDs K cl ρ₀ h₀ H₀ ds vs)
    (qb : (H₀ b = some (.tup us) ∧ ¬ Live ρ₀ h₀ b) ∨ (KT K b us ∧ us = [])) (rb : RelDs K cl ρ₀ h₀ H₀ es us) : ItOk K cl ρ₀ h₀ H₀ (zipD ds es) .free (RZ.ItzT K a b) := by
  have at1 : ∀ {ρ h H}, Ext1 ρ₀ h₀ H₀ ρ h H → SqT K H a vs := fun e => qa.elim (fun q => .inl (.inl (e.keep _ _ q.1 q.2 rfl).1)) fun q => .inr q.1
  have at2 : ∀ {ρ h H}, Ext1 ρ₀ h₀ H₀ ρ h H → SqT K H b us := fun e => qb.elim (fun q => .inl (.inl (e.keep _ _ q.1 q.2 rfl).1)) fun q => .inr q.1
  have l1 := ra.length
  have l2 := rb.length
  have lz : (zipD ds es).length = min ds.length es.length := List.length_zipWith
  refine ⟨fun ρ h H i hr e _ hi => ?_, fun ρ h H hr e _ => ⟨vs, us, at1 e, at2 e, by rw [lz]; omega⟩, fun ρ h H i d x H' hr e _ hd y => ?_⟩
  · rw [lz] at hi
    exact ⟨vs, us, vs[i]'(by omega), us[i]'(by omega), at1 e, at2 e, by simp, by simp⟩
  · obtain ⟨T, x1, y1, rfl, hT, rfl, w1, w2⟩ := y
    have hi : i < min ds.length es.length := by rw [← lz]; exact (List.getElem?_eq_some_iff.mp hd).1
    have ed : d = .tup [ds[i]'(by omega), es[i]'(by omega)] := by
      have := (List.getElem?_eq_some_iff.mp hd).2
      rw [← this]
      simp [zipD]
    subst ed
    obtain ⟨v1, g1, r1⟩ := ra.get (i := i) (d := ds[i]'(by omega)) (by simp)
    obtain ⟨v2, g2, r2⟩ := rb.get (i := i) (d := es[i]'(by omega)) (by simp)
    have e1 := w1 vs (at1 e)
    rw [g1] at e1; cases e1
    have e2 := w2 us (at2 e)
    rw [g2] at e2; cases e2
    obtain ⟨n1, n2, n3⟩ := hr.newV (o := .tup [x1, y1]) hT
    exact ⟨n1, n2, .tup (.inl ⟨upd_same, n3⟩) (.cons ((r1.mono0 e.toExt0).mono n2) (.cons ((r2.mono0 e.toExt0).mono n2) .nil))⟩
def asZip : List Dv → MH → Res (List Dv × Gd)
  | [.tup xs, .tup ys], h => .ok (zipD xs ys, .free) h
  | _, _ => .stuck
def iZip (ma : MA) : MI := fun τ h => (ma τ h).bind asZip
theorem ji_zip {e e2 : Expr} {m : MA} {p pos tpos : Pos} {elts : List Expr} {kk : Nat} (hg : Gl X "zip") (hm : X.mg "zip" = none) (ha : JA cl W X [e, e2] m)
    (hs : starEach [e, e2] X.env = (false, eval e X.env) :: starEach [e2] X.env := by rfl) (hpl : (backTo pos (starEach [e2] X.env)).any (·.1) = false := by rfl) :
    JI cl W X (.Tuple elts kk tpos) (.Call (.Name "zip" p) [e, e2] [] pos) (iZip m) := by
  refine pi_imp (RZ.pi_zipA hg hm ha hs hpl) fun σ H Q q => ?_
  obtain ⟨τ, ρ, h, hr, er, p⟩ := q
  have p' : Post X.K cl (RI X.K cl) W σ ρ h H ((m τ h).bind asZip) Q := p
  refine ⟨τ, ρ, h, hr, er, ?_⟩
  cases em : m τ h with
  | err c xs h1 => rw [em] at p'; exact p'
  | stuck => rw [em] at p'; exact p'.elim
  | ok ds h1 =>
    rw [em] at p'
    have p1 : Post X.K cl (RI X.K cl) W σ ρ h H (asZip ds h1) Q := p'
    intro ρ1 H1 v hr1 e1 r1
    unfold asZip at p1
    split at p1
    · have r1 : RelDs X.K cl ρ1 _ H1 [.tup _, .tup _] v := r1
      cases r1 with
      | cons r r' =>
        cases r' with
        | cons r' r'' =>
          cases r''
          cases r with
          | tup qa ra =>
            cases r' with
            | tup qb rb =>
              exact ⟨_, _, _, _, rfl, .inr ⟨sqT_of qa, sqT_of qb, p1 ρ1 H1 _ hr1 e1 (itz_ok qa ra qb rb)⟩⟩
    · exact p1.elim
end
theorem wI_zip {Q : List Dv × Gd → MH → Prop} {E : QE} {τ : MEnv} {h : MH} {ms : MA} (w : wR (ms τ h) (fun ds h1 => ∃ xs ys, ds = [.tup xs, .tup ys] ∧ Q (zipD xs ys, .free) h1) E) : wR (iZip ms τ h) Q E := by
  refine wR_bind (wR_mono w (fun d h1 w => ?_) fun _ _ _ e => e)
  obtain ⟨a, b, rfl, q⟩ := w
  exact wR_ok q
end L2.Mi

/-! MiSet: {elt for ..}, {elt for .. for ..} of ints under sorted(). -/
namespace L2.Mi
open PySem PySem.Spec PyProof.Rows
/-! ### a block's loop, whatever a turn's body does -/
/-- what a turn must show: the next item, its store, the tests, then the body -/
def TurnW (P : Program) (w : World) (A : Around) (env : Env) (tg : Expr) (ifs : List Expr) (it : Value) (R : Result → Shared → Prop) (Bd : (Shared → Prop) → Shared → Prop) (K : Shared → Prop) (s : Shared) : Prop :=
  wpAny (model P w) A (pyNext it) (fun r s₁ => match r with
    | none => R (.ok .next) s₁
    | some v => wpAny (model P w) A (letOwnedTupleGo tg it v) (fun _ s₂ => wpAny (model P w) A (assign tg env v) (fun _ s₃ =>
        wpAny (model P w) A (forIn ifs true fun c r => if r = true then do let ok ← isTrue c env (eval c env); pure (ForInStep.yield ok) else pure (ForInStep.yield r)) (fun ok s₄ => if ok = true then Bd K s₄ else K s₄)
          (notedBy (model P w) A env fun e z => R (.error e) z) s₃) (notedBy (model P w) A env fun e z => R (.error e) z) s₂) (notedBy (model P w) A env fun e z => R (.error e) z) s₁) (notedBy (model P w) A env fun e z => R (.error e) z) s
/-- the loop of the code c goes on by TurnW -/
def LoopW (P : Program) (w : World) (A : Around) (env : Env) (tg : Expr) (ifs : List Expr) (it : Value) (R : Result → Shared → Prop) (Bd : (Shared → Prop) → Shared → Prop) (c : Code) : Prop :=
  ∀ (I : Nat → Shared → Prop), (∀ n s, I n s → TurnW P w A env tg ifs it R Bd (fun z => ∃ m, m < n ∧ I m z) s) → ∀ n s, I n s → codeAny (model P w) A c R s
/-- the walk in the layer's words -/
def StepsT (vs : List Nat) (σ : St) (J : It) (g : TG) (tt : TT) (tb : St → Hp → (Hp → Prop) → Prop) (Fin : Hp → Prop) (V : Nat → Nat → Hp → Prop) : Prop :=
  ∀ i m H, V i m H → (J.stop i H ∧ Fin H) ∨ (J.go i H ∧ ∃ Nx : Hp → Prop, (∀ H', Nx H' → ∃ k, k < m ∧ V (i + 1) k H') ∧
    ∀ x H', J.yld i H x H' → g x (wipe σ vs) H' fun σ2 H2 => wipe σ2 vs = wipe σ vs ∧ tt σ2 H2 fun b H3 => if b = true then tb σ2 H3 Nx else Nx H3)
theorem walk_loop {B : Cx} (hcalm : B.calm = true) (hxe : B.xe = fun _ _ => False) {tg : Expr} {ifs : List Expr} {it : Addr} {fp : List Addr} {tn : Nat → Heap → Prop} {J : It} {R : Result → Shared → Prop} {Bd : (Shared → Prop) → Shared → Prop} {c : Code} {g : TG} {tt : TT} {tb : St → Hp → (Hp → Prop) → Prop}
    {pins : List (Addr × Obj)} {σ : St} {vs : List Nat} {V : Nat → Nat → Hp → Prop} {Fin : Hp → Prop} (T : Turn B.prog B.w B.K tg J fp it tn) (pg : PG B tg g) (pt : PTs B ifs tt) (hl : LoopW B.prog B.w B.A B.env tg ifs (.ref it) R Bd c)
    (fpok : ∀ {τ : St} {H : Hp} {s : Shared}, Inv B pins τ H s → (∀ b ∈ fp, H b = none) → ∀ b ∈ fp, FpOk B pins H b)
    (body : ∀ {ps : List (Addr × Obj)} {s : Shared} {τ : St} {H : Hp} {Nx : Hp → Prop} {K : Shared → Prop}, Inv B (pins ++ ps) τ H s → tb τ H Nx → (∀ z H' τ', Inv B (pins ++ ps) τ' H' z → wipe τ' vs = wipe τ vs → Nx H' → K z) → Bd K s)
    (steps : StepsT vs σ J g tt tb Fin V) (fin : ∀ z H', Inv B pins (wipe σ vs) H' z → Fin H' → R (.ok .next) z)
    {s : Shared} {H : Hp} {m : Nat} (I : Inv B pins (wipe σ vs) H s) (st : tn 0 s.heap) (nn : ∀ b ∈ fp, H b = none) (v0 : V 0 m H) : codeAny (model B.prog B.w) B.A c R s := by
  refine hl (fun n z => ∃ i K, Inv B pins (wipe σ vs) K z ∧ tn i z.heap ∧ (∀ b ∈ fp, K b = none) ∧ V i n K) ?_ m s ⟨0, H, I, st, nn, v0⟩
  rintro n z ⟨i, K, I1, t1, n1, v1⟩
  unfold TurnW
  rcases steps i n K v1 with ⟨hstop, hf⟩ | ⟨hgo, Nx, hNx, hstep⟩
  · refine thnF (T.done B rfl rfl rfl hcalm i pins z _ K (fun _ _ => False) I1 (fpok I1 n1) t1 hstop) ?_
    rintro r z' ⟨rfl, I2⟩
    exact fin z' K I2 hf
  · refine thnF (T.item B rfl rfl rfl hcalm i pins z _ K (fun _ _ => False) I1 (fpok I1 n1) t1 hgo) ?_
    rintro r z1 ⟨u, rfl, w1⟩
    refine thnF w1 ?_
    rintro _ z2 ⟨x, K2, I2, rx, yx, t2, n2⟩
    have Ip := I2.pinned (fpok I2 n2) (T.obj _ _ t2)
    have wg := pg.run _ z2 _ K2 x u _ Ip rx (hstep x K2 yx)
    rw [hxe] at wg
    refine thnF wg ?_
    rintro _ z3 ⟨τ, K3, I3, hw, q3⟩
    have wt := pt.run _ z3 τ K3 _ I3 q3
    rw [hxe] at wt
    refine thnF wt ?_
    rintro b z4 ⟨K4, I4, q4⟩
    have back : ∀ z' K' τ', Inv B (pins ++ pinsAt fp z2.heap) τ' K' z' → wipe τ' vs = wipe τ vs → Nx K' → ∃ m, m < n ∧ ∃ i K, Inv B pins (wipe σ vs) K z' ∧ tn i z'.heap ∧ (∀ b ∈ fp, K b = none) ∧ V i m K := by
      intro z' K' τ' I' hw' nx
      have hw := hw'.trans hw
      obtain ⟨k, hk, vk⟩ := hNx K' nx
      have pinned : ∀ b ∈ fp, ∀ o, z2.heap.get? b = some o → z'.heap.get? b = some o ∧ K' b = none := fun b hb o e => by
        have q := I'.pin (b, o) (List.mem_append_right _ (List.mem_append_right _ (mem_pinsAt hb e)))
        exact ⟨q.1, q.2.1⟩
      refine ⟨k, hk, i + 1, K', (I'.unpinned (pins := pins)).weak (by rw [← hw, wipe_length]) ?_, T.keep _ _ _ t2 fun b hb o e => (pinned b hb o e).1, ?_, vk⟩
      · intro j v e
        rw [← hw] at e
        exact (wipe_some e).1
      · intro b hb
        obtain ⟨o, e, _⟩ := T.obj _ _ t2 b hb
        exact (pinned b hb o e).2
    cases b with
    | false => exact back z4 K4 τ I4 rfl q4
    | true => exact body I4 q4 back
/-! ### the loops of set comprehensions -/
section
variable {P : Program} {w : World} {A : Around} {R : Result → Shared → Prop} {env : Env} {elt t0 i0 t1 i1 : Expr} {ifs0 ifs1 : List Expr} {scope : Scope} {pos : Pos} {it acc : Value}
/-- elt is worked out, then added -/
def AddW (P : Program) (w : World) (A : Around) (env : Env) (elt : Expr) (acc : Value) (R : Result → Shared → Prop) (K : Shared → Prop) (s : Shared) : Prop :=
  wpAny (model P w) A (eval elt env) (fun x z => wpAny (model P w) A (call (.builtin "set.add") [acc, x]) (fun _ y => K y) (notedBy (model P w) A env fun e y => R (.error e) y) z) (notedBy (model P w) A env fun e y => R (.error e) y) s
theorem loop_sc1 : LoopW P w A env t0 ifs0 it R (AddW P w A env elt acc R) (.compLoop (.SetComp elt [⟨t0, i0, ifs0, 0⟩] scope pos) 0 it acc env) :=
  fun I turn n s h => PpSet.compLoopS_any I turn n h
def sc2 (elt t0 i0 : Expr) (ifs0 : List Expr) (t1 i1 : Expr) (ifs1 : List Expr) (scope : Scope) (pos : Pos) : Expr := .SetComp elt [⟨t0, i0, ifs0, 0⟩, ⟨t1, i1, ifs1, 0⟩] scope pos
theorem turn_in : compTurn (sc2 elt t0 i0 ifs0 t1 i1 ifs1 scope pos) 1 it acc env = (do
    standAt i1.pos
    match ← pyNext it with
    | none => pure (.done .next)
    | some v =>
      letOwnedTupleGo t1 it v
      assign t1 env v
      let mut ok := true
      for c in ifs1 do
        if ok then ok ← isTrue c env (eval c env)
      if ok then
        (do let v ← eval elt env; standAt elt.pos; let _ ← call (.builtin "set.add") [acc, v])
      again (.compLoop (sc2 elt t0 i0 ifs0 t1 i1 ifs1 scope pos) 1 it acc env)) := by rfl
theorem turn_out : compTurn (sc2 elt t0 i0 ifs0 t1 i1 ifs1 scope pos) 0 it acc env = (do
    standAt i0.pos
    match ← pyNext it with
    | none => pure (.done .next)
    | some v =>
      letOwnedTupleGo t0 it v
      assign t0 env v
      let mut ok := true
      for c in ifs0 do
        if ok then ok ← isTrue c env (eval c env)
      if ok then
        let x ← eval i1 env
        standAt i1.pos
        let x ← foldedSetIterable i1 env x
        let _ ← runOwn (.compStart (sc2 elt t0 i0 ifs0 t1 i1 ifs1 scope pos) 1 (← holding [x] (pyIter x)) acc env) env
      again (.compLoop (sc2 elt t0 i0 ifs0 t1 i1 ifs1 scope pos) 0 it acc env)) := by rfl
theorem loop_in : LoopW P w A env t1 ifs1 it R (AddW P w A env elt acc R) (.compLoop (sc2 elt t0 i0 ifs0 t1 i1 ifs1 scope pos) 1 it acc env) := by
  intro I turn n s h
  refine codeAny_loop rfl I (fun n s hI => ?_) n h
  show wpAny _ A (Sem.onRaise (compTurn (sc2 elt t0 i0 ifs0 t1 i1 ifs1 scope pos) 1 it acc env) _) _ _ s
  refine wpAny_noted ?_
  rw [turn_in]
  refine wpAny_bind (wpAny_standAt (wpAny_bind (wpAny_mono (turn n s hI) (fun r z q => ?_) fun _ _ q => q)))
  cases r with
  | none => exact wpAny_pure q
  | some v =>
    refine wpAny_bind (wpAny_mono q (fun _ z1 q1 => wpAny_bind (wpAny_mono q1 (fun _ z2 q2 => wpAny_bind (wpAny_mono q2 (fun ok z3 q3 => ?_) fun _ _ y => y)) fun _ _ y => y)) fun _ _ y => y)
    cases ok with
    | true => exact wpAny_bind (wpAny_bind (wpAny_mono (show AddW P w A env elt acc R _ z3 from q3) (fun x z4 q4 => wpAny_bind (wpAny_standAt (wpAny_bind (wpAny_mono q4 (fun _ _ q5 => wpAny_pure (wpAny_pure ⟨rfl, q5⟩)) fun _ _ y => y)))) fun _ _ y => y))
    | false => exact wpAny_pure ⟨rfl, q3⟩
/-- the second source, then its own loop -/
def SubW (P : Program) (w : World) (A : Around) (env : Env) (i1 : Expr) (start : Value → Code) (R : Result → Shared → Prop) (K : Shared → Prop) (s : Shared) : Prop :=
  wpAny (model P w) A (eval i1 env) (fun x z => wpAny (model P w) A (pyIter x) (fun j y => codeAny (model P w) A (start j) (fun r y => match r with
    | .ok _ => K y
    | .error _ => False) y) (notedBy (model P w) A env fun e y => R (.error e) y) z) (notedBy (model P w) A env fun e y => R (.error e) y) s
theorem loop_out (hset : ∀ x, foldedSetIterable i1 env x = pure x) : LoopW P w A env t0 ifs0 it R (SubW P w A env i1 (fun j => .compStart (sc2 elt t0 i0 ifs0 t1 i1 ifs1 scope pos) 1 j acc env) R) (.compLoop (sc2 elt t0 i0 ifs0 t1 i1 ifs1 scope pos) 0 it acc env) := by
  intro I turn n s h
  refine codeAny_loop rfl I (fun n s hI => ?_) n h
  show wpAny _ A (Sem.onRaise (compTurn (sc2 elt t0 i0 ifs0 t1 i1 ifs1 scope pos) 0 it acc env) _) _ _ s
  refine wpAny_noted ?_
  rw [turn_out]
  refine wpAny_bind (wpAny_standAt (wpAny_bind (wpAny_mono (turn n s hI) (fun r z q => ?_) fun _ _ q => q)))
  cases r with
  | none => exact wpAny_pure q
  | some v =>
    refine wpAny_bind (wpAny_mono q (fun _ z1 q1 => wpAny_bind (wpAny_mono q1 (fun _ z2 q2 => wpAny_bind (wpAny_mono q2 (fun ok z3 q3 => ?_) fun _ _ y => y)) fun _ _ y => y)) fun _ _ y => y)
    cases ok with
    | false => exact wpAny_pure ⟨rfl, q3⟩
    | true =>
      refine wpAny_bind (wpAny_mono (show SubW P w A env i1 _ R _ z3 from q3) (fun x z4 q4 => ?_) fun _ _ y => y)
      refine wpAny_bind (wpAny_standAt (wpAny_bind (wpAny_of_eq (hset x) (wpAny_bind (wpAny_holding (wpAny_mono q4 (fun j z5 q5 => wpAny_bind (wpAny_runOwn ?_)) fun _ _ y => y))))))
      rw [Around.mark_none]
      refine codeAny_mono q5 ?_
      intro r z6 q6
      match r, q6 with
      | .ok f, q6 =>
        first
          | exact wpAny_pure ⟨rfl, q6⟩
          | exact wpAny_bind (wpAny_pure (wpAny_pure ⟨rfl, q6⟩))
      | .error e, q6 => exact q6.elim
theorem start_in {s : Shared} (h0 : codeAny (model P w) A (.compLoop (sc2 elt t0 i0 ifs0 t1 i1 ifs1 scope pos) 1 it acc env) R s)
    (h : wpAny (model P w) A (pyIter it) (fun j z => codeAny (model P w) A (.compLoop (sc2 elt t0 i0 ifs0 t1 i1 ifs1 scope pos) 1 j acc env) R z) (notedBy (model P w) A env fun x z => R (.error x) z) s) :
    codeAny (model P w) A (.compStart (sc2 elt t0 i0 ifs0 t1 i1 ifs1 scope pos) 1 it acc env) R s := by
  refine codeAny_of_tree ?_
  show wpAny _ _ (Sem.onRaise (compStart (sc2 elt t0 i0 ifs0 t1 i1 ifs1 scope pos) 1 it acc env) _) _ _ s
  refine wpAny_notedAt ?_
  unfold compStart
  show wpAny _ _ (ask >>= _) _ _ s
  refine wpAny_bind (wpAny_askSetting (wpAny_ite ?_))
  split
  · first
      | exact wpAny_bind (wpAny_pure (wpAny_pure (And.intro rfl h0)))
      | exact wpAny_pure (And.intro rfl h0)
  · refine wpAny_bind (wpAny_rule ?_)
    first
      | exact wpAny_bind (wpAny_standAt (wpAny_bind (wpAny_mono h (fun j z q => wpAny_pure (And.intro rfl q)) fun _ _ x => x)))
      | (show wpAny _ _ (standAt i1.pos >>= _) _ _ s; exact wpAny_bind (wpAny_standAt (wpAny_bind (wpAny_mono h (fun j z q => wpAny_pure (And.intro rfl q)) fun _ _ x => x))))
end
/-! ### the whole comprehension -/
def tSetC (w : World) (wi : TI) (g : TG) (tt : TT) (tb : Addr → St → Hp → (Hp → Prop) → Prop) (vs : List Nat) : TE := fun σ H Q => wi σ H fun J H1 => ∀ D, H1 D = none →
  ∃ V : Nat → Nat → Hp → Prop, (∃ m, V 0 m (upd H1 D (SetO w D (fun _ => false) 0))) ∧ StepsT vs σ J g tt (tb D) (fun K => Q (.ref D) K) V
/-- what a comprehension's body does in its block -/
def BodyOk (X : Cx) (scope : Scope) (vs : List Nat) (tb : Addr → St → Hp → (Hp → Prop) → Prop) (Bd : Addr → Env → (Result → Shared → Prop) → (Shared → Prop) → Shared → Prop) : Prop :=
  ∀ (s0 : Shared) (H0 : Hp) (C : Addr) (cls : List (Str × Addr)) (fp : List Addr) (D : Addr) {ps : List (Addr × Obj)} {s : Shared} {τ : St} {H : Hp} {Nx : Hp → Prop} {K : Shared → Prop} {R : Result → Shared → Prop},
    Inv (X.blk s0 H0 scope (compEnvC scope cls C X.env) fp) ps τ H s → tb D τ H Nx → (∀ z H' τ', Inv (X.blk s0 H0 scope (compEnvC scope cls C X.env) fp) ps τ' H' z → wipe τ' vs = wipe τ vs → Nx H' → K z) → Bd D (compEnvC scope cls C X.env) R K s
theorem pe_setc {X : Cx} {elt tg iter : Expr} {ifs : List Expr} {rest : List Comprehension} {scope : Scope} {own : List (Str × Nat)} {pos : Pos} {wi : TI} {g : TG} {tt : TT} {tb : Addr → St → Hp → (Hp → Prop) → Prop} {Bd : Addr → Env → (Result → Shared → Prop) → (Shared → Prop) → Shared → Prop}
    (hcalm : X.calm = true) (hnd : X.N.Nodup) (hi : PI X tg iter wi) (ok : BlkOk X.N X.env.scope scope own)
    (hg : ∀ (s : Shared) (H : Hp) (C : Addr) (cls : List (Str × Addr)) (fp : List Addr), PG (X.blk s H scope (compEnvC scope cls C X.env) fp) tg g)
    (ht : ∀ (s : Shared) (H : Hp) (C : Addr) (cls : List (Str × Addr)) (fp : List Addr), PTs (X.blk s H scope (compEnvC scope cls C X.env) fp) ifs tt)
    (hloop : ∀ (env : Env) (it : Value) (D : Addr) (R : Result → Shared → Prop), LoopW X.prog X.w X.A env tg ifs it R (Bd D env R) (.compLoop (.SetComp elt (⟨tg, iter, ifs, 0⟩ :: rest) scope pos) 0 it (.ref D) env))
    (hb : BodyOk X scope (own.map (·.2)) tb Bd) (hset : ∀ x, foldedSetIterable iter X.env x = pure x) : PE X (.SetComp elt (⟨tg, iter, ifs, 0⟩ :: rest) scope pos) (tSetC X.w wi g tt tb (own.map (·.2))) := by
  refine ⟨fun pins s σ H Q I h => ?_⟩
  rw [PpSet.eval_SetComp]
  have frees : ∀ y ∈ scope.names, y.2 = .free → ∃ c, X.env.cells.lookup y.1 = some c := fun y hy e => (ok.free y hy e).elim (fun k => I.ok.has _ (.inl k)) fun k => I.ok.has _ (.inr k)
  refine wpAny_comprehension_free (use := none) rfl hset (closure_ok frees) ok.kind (fun y hy e => by rw [ok.uniq y hy, e]) (thn (hi.run pins s σ H _ I h) fun xv s1 hx => thn hx ?_)
  rintro itv s2 ⟨it, fp, tn, J, H2, rfl, I2, T, st2, f2, q⟩
  refine PpSet.newSet_ok (newEnv_comp ?_)
  obtain ⟨D, hD⟩ : ∃ D, s2.heap.objs.size = D := ⟨_, rfl⟩
  rw [hD]
  obtain ⟨V, ⟨m0, v0⟩, steps⟩ := q D (I2.hok.fresh (Nat.le_of_eq hD))
  obtain ⟨s3, hs3⟩ : ∃ s3 : Shared, ({ s2 with heap := s2.heap.push { cls := .type "set", dict := none, data := .set #[] 0 (.fresh 0 0 (!X.w.params.followText "set-order")) } } : Shared) = s3 := ⟨_, rfl⟩
  rw [hs3]
  obtain ⟨H3, hH3⟩ : ∃ H3, upd H2 D (SetO X.w D (fun _ => false) 0) = H3 := ⟨_, rfl⟩
  rw [hH3] at v0
  have grown : s3.heap = s2.heap.push { cls := .type "set", dict := none, data := .set #[] 0 (.fresh 0 0 (!X.w.params.followText "set-order")) } := by rw [← hs3]
  have I3 : Inv X pins σ H3 s3 := by
    rw [← hs3, ← hH3]
    refine I2.laid (t' := s2.toks) (fun b o e => Heap.get?_push_of_some _ e) (Nat.le_of_eq hD) ?_
    rw [← hD]
    exact setO_new (setR_fresh X.w)
  have f3 : ∀ b ∈ fp, FpOk X pins H3 b ∧ b < s3.heap.objs.size := by
    intro b hb
    obtain ⟨o, e, _⟩ := T.obj _ _ st2 b hb
    have lt := Heap.lt_size e
    refine ⟨⟨?_, (f2 b hb).2⟩, by rw [grown, Heap.size_push]; exact Nat.lt_succ_of_lt lt⟩
    rw [← hH3, upd_ne (by rw [← hD]; exact Nat.ne_of_lt lt)]
    exact (f2 b hb).1
  have I4 := block_start I3 ok hnd f3
  have st4 : ∀ h', (∀ b ∈ fp, ∀ o, s3.heap.get? b = some o → h'.get? b = some o) → tn 0 h' := fun h' k => T.keep _ _ _ st2 fun b hb o e => k b hb o (by rw [grown]; exact Heap.get?_push_of_some _ e)
  obtain ⟨C, hC⟩ : ∃ C, s3.heap.objs.size = C := ⟨_, rfl⟩
  obtain ⟨cls, hcls⟩ : ∃ cls, cellsFrom (s3.heap.objs.size + 1) scope.names (cloFrom X.env.cells scope.names []) = cls := ⟨_, rfl⟩
  have env4 : compEnvC scope (cellsFrom (s3.heap.objs.size + 1) scope.names (cloFrom X.env.cells scope.names [])) s3.heap.objs.size X.env = compEnvC scope cls C X.env := by rw [hcls, hC]
  rw [env4] at I4
  show codeAny _ _ (.compStart (.SetComp elt (⟨tg, iter, ifs, 0⟩ :: rest) scope pos) 0 (.ref it) (.ref D) (compEnvC scope (cellsFrom (s3.heap.objs.size + 1) scope.names (cloFrom X.env.cells scope.names [])) s3.heap.objs.size X.env)) (compPost (model X.prog X.w) X.A X.xe none _ (.ref D) s3.heap.objs.size) { s3 with heap := pushCells (s3.heap.push { cls := .type "dict", data := .dict #[] }) scope.names }
  rw [env4, hC]
  obtain ⟨s4, hs4⟩ : ∃ s4 : Shared, ({ s3 with heap := pushCells (s3.heap.push { cls := .type "dict", data := .dict #[] }) scope.names } : Shared) = s4 := ⟨_, rfl⟩
  rw [hs4] at I4 ⊢
  have t4 : tn 0 s4.heap := st4 _ fun b _ o e => by rw [← hs4]; exact pushCells_keeps _ _ _ _ (Heap.get?_push_of_some _ e)
  have nf : ∀ b ∈ fp, H3 b = none := fun b hb => (f3 b hb).1.1
  have fpok : ∀ {τ : St} {K : Hp} {z : Shared}, Inv (X.blk s3 H3 scope (compEnvC scope cls C X.env) fp) [] τ K z → (∀ b ∈ fp, K b = none) → ∀ b ∈ fp, FpOk (X.blk s3 H3 scope (compEnvC scope cls C X.env) fp) [] K b := by
    intro τ K z J1 hn b hb
    refine ⟨hn b hb, (J1.ok.exf b hb).1, J1.ok.exfs b hb, .inl hb, (J1.ok.exf b hb).2, ?_⟩
    intro p hp
    exact absurd (show p ∈ ([] : List (Addr × Obj)) ++ [] from hp) (by simp)
  have loop : codeAny (model X.prog X.w) X.A (.compLoop (.SetComp elt (⟨tg, iter, ifs, 0⟩ :: rest) scope pos) 0 (.ref it) (.ref D) (compEnvC scope cls C X.env)) (compPost (model X.prog X.w) X.A X.xe none (EP X pins σ Q) (.ref D) C) s4 := by
    refine walk_loop (B := X.blk s3 H3 scope (compEnvC scope cls C X.env) fp) (pins := []) hcalm rfl T (hg s3 H3 C cls fp) (ht s3 H3 C cls fp) (hloop _ _ D _) fpok ?_ steps ?_ I4 t4 nf v0
    · intro ps s' τ K Nx Kp J1 hb1 hk
      exact hb s3 H3 C cls fp D J1 hb1 hk
    · intro z K J1 hq
      have back : Inv X pins σ K z := I3.call' (ch := fp) J1.os J1.base J1.hok J1.bare fun b hb => ⟨(f3 b hb).1.2.2.2.1, (f3 b hb).1.2.1, (f3 b hb).1.2.2.2.2.1, (f3 b hb).1.2.2.2.2.2⟩
      have nC : K C = none := J1.free
      obtain ⟨m, hm, _⟩ := J1.loc
      have hm : z.heap.Ns C m := hm
      obtain ⟨f0, f1, f2', f3', f4, f5⟩ := I3.fpOk (Nat.le_of_eq hC) nC
      exact ⟨m, hm, fun h'' sb => ⟨.ref D, K, back.turned (t' := z.toks) (fun b o hb e => (sb.2 b hb).trans e) f0 f1 f3' f4 f5, rfl, hq⟩⟩
  exact PpSet.codeAny_compStart_set loop (T.self X.A 0 _ _ _ t4 loop)
/-! ### the bodies -/
section
variable {X : Cx} {elt : Expr} {scope : Scope} {te : TE} {vs : List Nat}
def tbAdd (w : World) (te : TE) : Addr → St → Hp → (Hp → Prop) → Prop := fun D σ H Nx => te σ H fun y H1 => ∃ (c : Int) (S : Int → Bool) (n : Nat), y = .int c ∧ H1 D = some (SetO w D S n) ∧ n + 1 < scanBound ∧
  Nx (upd H1 D (SetO w D (fun j => S j || decide (j = c)) (if S c = true then n else n + 1)))
theorem add_run {B : Cx} (hxe : B.xe = fun _ _ => False) (pe : PE B elt te) {D : Addr} {ps : List (Addr × Obj)} {s : Shared} {τ : St} {H : Hp} {Nx : Hp → Prop} {K : Shared → Prop} {R : Result → Shared → Prop}
    (I : Inv B ps τ H s) (q : tbAdd B.w te D τ H Nx) (k : ∀ z H', Inv B ps τ H' z → Nx H' → K z) : AddW B.prog B.w B.A B.env elt (.ref D) R K s := by
  have we := pe.run ps s τ H _ I q
  rw [hxe] at we
  refine thnF we ?_
  rintro y s1 ⟨yv, H1, I1, r1, c, S, n, rfl, hD, room, nx⟩
  have wa := mt_sadd (X := B) ps s1 τ H1 (.ref D) [.int c] (.ref D) [y] (fun _ H' => Nx H') I1 rfl (.cons r1 .nil) ⟨D, c, S, n, rfl, rfl, hD, room, nx⟩
  rw [hxe] at wa
  refine thnF wa ?_
  rintro _ s2 ⟨_, H2, I2, _, nx⟩
  exact k s2 H2 I2 nx
theorem body_add (he : ∀ (s : Shared) (H : Hp) (C : Addr) (cls : List (Str × Addr)) (fp : List Addr), PE (X.blk s H scope (compEnvC scope cls C X.env) fp) elt te) :
    BodyOk X scope vs (tbAdd X.w te) fun D env R K s => AddW X.prog X.w X.A env elt (.ref D) R K s := by
  intro s0 H0 C cls fp D ps s τ H Nx K R I q k
  exact add_run (B := X.blk s0 H0 scope (compEnvC scope cls C X.env) fp) rfl (he s0 H0 C cls fp) I q fun z H' I' nx => k z H' τ I' rfl nx
def tbSub (w : World) (wi1 : TI) (g1 : TG) (tt1 : TT) (te : TE) (vs1 : List Nat) : Addr → St → Hp → (Hp → Prop) → Prop := fun D σ H Nx => wi1 σ H fun J1 H1 => ∃ V : Nat → Nat → Hp → Prop, (∃ m, V 0 m H1) ∧ StepsT vs1 σ J1 g1 tt1 (tbAdd w te D) Nx V
theorem body_sub {t0 i0 t1 i1 : Expr} {ifs0 ifs1 : List Expr} {pos : Pos} {wi1 : TI} {g1 : TG} {tt1 : TT} {vs1 : List Nat} (hcalm : X.calm = true) (hv : ∀ i ∈ vs1, i ∈ vs)
    (he : ∀ (s : Shared) (H : Hp) (C : Addr) (cls : List (Str × Addr)) (fp : List Addr), PE (X.blk s H scope (compEnvC scope cls C X.env) fp) elt te)
    (hi1 : ∀ (s : Shared) (H : Hp) (C : Addr) (cls : List (Str × Addr)) (fp : List Addr), PI (X.blk s H scope (compEnvC scope cls C X.env) fp) t1 i1 wi1)
    (hg1 : ∀ (s : Shared) (H : Hp) (C : Addr) (cls : List (Str × Addr)) (fp : List Addr), PG (X.blk s H scope (compEnvC scope cls C X.env) fp) t1 g1)
    (ht1 : ∀ (s : Shared) (H : Hp) (C : Addr) (cls : List (Str × Addr)) (fp : List Addr), PTs (X.blk s H scope (compEnvC scope cls C X.env) fp) ifs1 tt1) :
    BodyOk X scope vs (tbSub X.w wi1 g1 tt1 te vs1) fun D env R K s => SubW X.prog X.w X.A env i1 (fun j => .compStart (sc2 elt t0 i0 ifs0 t1 i1 ifs1 scope pos) 1 j (.ref D) env) R K s := by
  intro s0 H0 C cls fp D ps s τ H Nx K R I q k
  have wi := (hi1 s0 H0 C cls fp).run ps s τ H _ I q
  refine thnF wi fun x s1 w1 => thnF w1 ?_
  rintro j s2 ⟨it, fp1, tn, J, H2, rfl, I2, T, t2, f2, V, ⟨m, v0⟩, steps⟩
  have loop : codeAny (model X.prog X.w) X.A (.compLoop (sc2 elt t0 i0 ifs0 t1 i1 ifs1 scope pos) 1 (.ref it) (.ref D) (compEnvC scope cls C X.env)) (fun r y => match r with
      | .ok _ => K y
      | .error _ => False) s2 := by
    refine walk_loop (B := X.blk s0 H0 scope (compEnvC scope cls C X.env) fp) (pins := ps) (vs := vs1) (σ := τ) hcalm rfl T (hg1 s0 H0 C cls fp) (ht1 s0 H0 C cls fp) (loop_in (elt := elt) (acc := .ref D)) ?_ ?_ steps ?_ (I2.weak (wipe_length _ _) fun j v e => (wipe_some e).1) t2 (fun b hb => (f2 b hb).1) v0
    · intro τ' K' z J1 hn b hb
      exact ⟨hn b hb, (f2 b hb).2⟩
    · intro ps' s' τ' K' Nx' Kp J1 hb1 hk
      exact add_run (B := X.blk s0 H0 scope (compEnvC scope cls C X.env) fp) rfl (he s0 H0 C cls fp) J1 hb1 fun z H' I' nx => hk z H' τ' I' rfl nx
    · intro z K' J1 nx
      refine k z K' (wipe τ vs1) J1 ?_ nx
      exact wipe_same (σ := τ) (σ' := wipe τ vs1) vs (wipe_length _ _) fun i hi => wipe_out fun h => hi (hv i h)
  exact start_in loop (T.self X.A 0 _ _ _ t2 loop)
end
/-! ### ints, once each, rising -/
def insU (k : Int) : List Int → List Int
  | [] => [k]
  | x :: xs => if k < x then k :: x :: xs else if k = x then x :: xs else x :: insU k xs
def sortU (ns : List Int) : List Int := ns.foldl (fun l k => insU k l) []
theorem insU_mem {k j : Int} : ∀ {l : List Int}, j ∈ insU k l ↔ j = k ∨ j ∈ l
  | [] => by simp [insU]
  | x :: xs => by
    unfold insU
    split
    · simp
    · split
      · rename_i h; subst h; simp
      · rw [List.mem_cons, insU_mem (l := xs), List.mem_cons]
        constructor
        · rintro (h | h | h)
          · exact .inr (.inl h)
          · exact .inl h
          · exact .inr (.inr h)
        · rintro (h | h | h)
          · exact .inr (.inl h)
          · exact .inl h
          · exact .inr (.inr h)
theorem insU_lt {k : Int} : ∀ {l : List Int}, l.Pairwise (· < ·) → (insU k l).Pairwise (· < ·)
  | [], _ => by simp [insU]
  | x :: xs, h => by
    obtain ⟨h1, h2⟩ := List.pairwise_cons.mp h
    unfold insU
    split
    · rename_i hk
      refine List.pairwise_cons.mpr ⟨fun y hy => ?_, h⟩
      rcases List.mem_cons.mp hy with rfl | hy
      · exact hk
      · have := h1 y hy; omega
    · split
      · exact h
      · rename_i hk1 hk2
        refine List.pairwise_cons.mpr ⟨fun y hy => ?_, insU_lt h2⟩
        rcases insU_mem.mp hy with rfl | hy
        · omega
        · exact h1 y hy
theorem insU_len {k : Int} : ∀ {l : List Int}, l.Pairwise (· < ·) → (insU k l).length = if k ∈ l then l.length else l.length + 1
  | [], _ => by simp [insU]
  | x :: xs, h => by
    obtain ⟨h1, h2⟩ := List.pairwise_cons.mp h
    unfold insU
    split
    · rename_i hk
      rw [if_neg]
      · simp
      · intro m
        rcases List.mem_cons.mp m with e | m
        · omega
        · have := h1 k m; omega
    · split
      · rename_i e; subst e; simp
      · rename_i hk1 hk2
        rw [List.length_cons, insU_len h2]
        by_cases m : k ∈ xs
        · rw [if_pos m, if_pos (List.mem_cons_of_mem _ m), List.length_cons]
        · rw [if_neg m, if_neg (fun z => (List.mem_cons.mp z).elim hk2 m), List.length_cons]
theorem foldU_mem {j : Int} : ∀ {ns l : List Int}, j ∈ ns.foldl (fun l k => insU k l) l ↔ j ∈ ns ∨ j ∈ l
  | [], l => by simp
  | n :: ns, l => by
    rw [List.foldl_cons, foldU_mem, insU_mem, List.mem_cons]
    constructor
    · rintro (h | h | h)
      · exact .inl (.inr h)
      · exact .inl (.inl h)
      · exact .inr h
    · rintro ((h | h) | h)
      · exact .inr (.inl h)
      · exact .inl h
      · exact .inr (.inr h)
theorem sortU_mem {j : Int} {ns : List Int} : j ∈ sortU ns ↔ j ∈ ns := by unfold sortU; rw [foldU_mem]; simp
theorem foldU_lt : ∀ {ns l : List Int}, l.Pairwise (· < ·) → (ns.foldl (fun l k => insU k l) l).Pairwise (· < ·)
  | [], _, h => h
  | n :: _, l, h => by
    rw [List.foldl_cons]
    exact foldU_lt (insU_lt (k := n) (l := l) h)
theorem sortU_lt (ns : List Int) : (sortU ns).Pairwise (· < ·) := foldU_lt .nil
theorem sortU_snoc {ns : List Int} {k : Int} : sortU (ns ++ [k]) = insU k (sortU ns) := by unfold sortU; rw [List.foldl_append]; rfl
theorem foldU_le : ∀ {ns l : List Int}, l.Pairwise (· < ·) → (ns.foldl (fun l k => insU k l) l).length ≤ ns.length + l.length
  | [], l, _ => by simp
  | n :: ns, l, h => by
    have h1 := foldU_le (ns := ns) (insU_lt (k := n) h)
    have h2 := insU_len (k := n) h
    rw [List.foldl_cons, List.length_cons]
    split at h2 <;> omega
theorem sortU_le (ns : List Int) : (sortU ns).length ≤ ns.length := foldU_le (ns := ns) (l := []) .nil
theorem rising_one : ∀ {a b : List Int}, a.Pairwise (· < ·) → b.Pairwise (· < ·) → (∀ k, k ∈ a ↔ k ∈ b) → a = b
  | [], [], _, _, _ => rfl
  | [], y :: _, _, _, h => absurd ((h y).mpr List.mem_cons_self) (by simp)
  | x :: _, [], _, _, h => absurd ((h x).mp List.mem_cons_self) (by simp)
  | x :: xs, y :: ys, ha, hb, h => by
    obtain ⟨a1, a2⟩ := List.pairwise_cons.mp ha
    obtain ⟨b1, b2⟩ := List.pairwise_cons.mp hb
    have e : x = y := by
      rcases List.mem_cons.mp ((h x).mp List.mem_cons_self) with e | m
      · exact e
      · rcases List.mem_cons.mp ((h y).mpr List.mem_cons_self) with e | m'
        · exact e.symm
        · have := b1 x m; have := a1 y m'; omega
    subst e
    congr 1
    refine rising_one a2 b2 fun k => ⟨fun m => ?_, fun m => ?_⟩
    · rcases List.mem_cons.mp ((h k).mp (List.mem_cons_of_mem _ m)) with e | m'
      · have := a1 k m; omega
      · exact m'
    · rcases List.mem_cons.mp ((h k).mpr (List.mem_cons_of_mem _ m)) with e | m'
      · have := b1 k m; omega
      · exact m'
/-! ### the mirror -/
abbrev MB := MEnv → List Int → MH → Res (List Int)
noncomputable def scL (g : Gd) (all : List Dv) (mg : MG) (tt : MT) (bd : MB) (τ : MEnv) : List Dv → List Int → MH → Res (List Int)
  | [], acc, h => if g.ok all h = true then .ok acc h else .stuck
  | d :: ds, acc, h => if g.ok all h = true then (match mg d τ with
    | some τ1 => (match tt τ1 h with
      | .ok true h1 => (match bd τ1 acc h1 with
        | .ok acc2 h2 => scL g all mg tt bd τ ds acc2 h2
        | _ => .stuck)
      | .ok false h1 => scL g all mg tt bd τ ds acc h1
      | _ => .stuck)
    | none => .stuck) else .stuck
def bAdd (te : ME) : MB := fun τ acc h => match te τ h with
  | .ok (.int c) h1 => if decide (acc.length < 4000) = true then .ok (acc ++ [c]) h1 else .stuck
  | _ => .stuck
noncomputable def bSub (mi1 : MI) (mg1 : MG) (tt1 : MT) (bd : MB) (vs1 : List Nat) : MB := fun τ acc h => match mi1 τ h with
  | .ok p h1 => scL p.2 p.1 mg1 tt1 bd (wipeD τ vs1) p.1 acc h1
  | _ => .stuck
def endSc (ns : List Int) (h : MH) : Res Dv := if decide ((sortU ns).length < 64) = true then .ok (.lst ((sortU ns).map .int)) h else .stuck
/-- sorted({..}) -/
noncomputable def eSc (mi : MI) (mg : MG) (tt : MT) (bd : MB) (vs : List Nat) : ME := fun τ h => (mi τ h).bind fun p h1 => match scL p.2 p.1 mg tt bd (wipeD τ vs) p.1 [] h1 with
  | .ok ns h2 => endSc ns h2
  | _ => .stuck
/-! ### it is right -/
def SetNow (w : World) (D : Addr) (acc : List Int) (H : Hp) : Prop := ∃ S : Int → Bool, H D = some (SetO w D S (sortU acc).length) ∧ ∀ k, S k = decide (k ∈ acc)
theorem SetNow.nil {w : World} {D : Addr} {H : Hp} (e : H D = some (SetO w D (fun _ => false) 0)) : SetNow w D [] H := ⟨_, e, fun k => by simp⟩
theorem SetNow.more {w : World} {D : Addr} {acc : List Int} {H : Hp} {c : Int} {S : Int → Bool} (h : ∀ k, S k = decide (k ∈ acc)) :
    SetNow w D (acc ++ [c]) (upd H D (SetO w D (fun j => S j || decide (j = c)) (if S c = true then (sortU acc).length else (sortU acc).length + 1))) := by
  refine ⟨fun j => S j || decide (j = c), ?_, fun k => by dsimp only; rw [h k]; simp⟩
  rw [upd_same, sortU_snoc, insU_len (sortU_lt acc), h c]
  by_cases m : c ∈ acc
  · rw [if_pos (decide_eq_true m), if_pos (sortU_mem.mpr m)]
  · rw [if_neg (by simpa using m), if_neg (fun z => m (sortU_mem.mp z))]
theorem Ext1.trans {ρ ρ1 ρ2 : Rho} {h h1 h2 : MH} {H H1 H2 : Hp} (a : Ext1 ρ h H ρ1 h1 H1) (b : Ext1 ρ1 h1 H1 ρ2 h2 H2) : Ext1 ρ h H ρ2 h2 H2 :=
  ⟨⟨fun i x e => b.rho i x (a.rho i x e), fun p o e n => by
    obtain ⟨⟨o1, e1, s1⟩, n1⟩ := a.keepS p o e n
    obtain ⟨⟨o2, e2, s2⟩, n2⟩ := b.keepS p o1 e1 n1
    exact ⟨⟨o2, e2, s2.trans s1⟩, n2⟩⟩, fun p ob u e n => b.frz p ob u (a.frz p ob u e n) (a.keepS p _ e n).2⟩
def BdS (K : PySem.W.Frag) (cl : Str → Option Addr) (w : World) (ρ₀ : Rho) (h₀ : MH) (H₀ : Hp) (D : Addr) (bd : MB) (tb : St → Hp → (Hp → Prop) → Prop) : Prop :=
  ∀ {τ : MEnv} {σ : St} {ρ : Rho} {h : MH} {H : Hp} {acc acc' : List Int} {h' : MH}, HRel K cl ρ h H → EnvR K cl ρ h H τ σ → Ext ρ₀ h₀ H₀ ρ h H → D ∈ ρ.hid → SetNow w D acc H → bd τ acc h = .ok acc' h' →
    ∀ Nx : Hp → Prop, (∀ ρ' H', HRel K cl ρ' h' H' → Ext1 ρ h H ρ' h' H' → Ext ρ₀ h₀ H₀ ρ' h' H' → D ∈ ρ'.hid → SetNow w D acc' H' → Nx H') → tb σ H Nx
theorem steps_of {K : PySem.W.Frag} {cl : Str → Option Addr} {w : World} {ρ₀ : Rho} {h₀ : MH} {H₀ : Hp} {D : Addr} {bd : MB} {tb : St → Hp → (Hp → Prop) → Prop} (hbd : BdS K cl w ρ₀ h₀ H₀ D bd tb) {vs sl : List Nat} (hsl : ∀ i ∈ sl, i ∈ vs)
    {ρb : Rho} {hb : MH} {Hb : Hp} {τ : MEnv} {σ : St} {g : Gd} {ds : List Dv} {J : It} {mg : MG} {tt : MT} (er : EnvR K cl ρb hb Hb τ σ) (it : ItOk K cl ρb hb Hb ds g J) {accE : List Int} {hE : MH} {Fin : Hp → Prop}
    (hfin : ∀ ρ H, HRel K cl ρ hE H → Ext1 ρb hb Hb ρ hE H → Ext ρ₀ h₀ H₀ ρ hE H → D ∈ ρ.hid → SetNow w D accE H → Fin H)
    {ρ : Rho} {h : MH} {H : Hp} {acc : List Int} (hr : HRel K cl ρ h H) (e0 : Ext1 ρb hb Hb ρ h H) (e : Ext ρ₀ h₀ H₀ ρ h H) (hm : D ∈ ρ.hid) (hs : SetNow w D acc H) (run : scL g ds mg tt bd (wipeD τ vs) ds acc h = .ok accE hE) :
    ∃ V : Nat → Nat → Hp → Prop, (∃ m, V 0 m H) ∧ StepsT vs σ J (tG K cl sl mg) (tM K cl RB NoW tt) tb Fin V := by
  refine ⟨fun i m H => m = ds.length - i ∧ i ≤ ds.length ∧ ∃ ρ h acc, HRel K cl ρ h H ∧ Ext1 ρb hb Hb ρ h H ∧ Ext ρ₀ h₀ H₀ ρ h H ∧ D ∈ ρ.hid ∧ SetNow w D acc H ∧ scL g ds mg tt bd (wipeD τ vs) (ds.drop i) acc h = .ok accE hE,
    ⟨ds.length, by simp, Nat.zero_le _, ρ, h, acc, hr, e0, e, hm, hs, run⟩, ?_⟩
  clear hr e0 e hm hs run
  rintro i m H ⟨rfl, hi, ρ, h, acc, hr, e0, e, hm, hs, run⟩
  by_cases hlt : i < ds.length
  · right
    rw [drop_cons hlt] at run
    unfold scL at run
    split at run
    · rename_i hg
      cases em : mg ds[i] (wipeD τ vs) with
      | none => simp only [em] at run; cases run
      | some τ1 =>
        simp only [em] at run
        refine ⟨it.go ρ h H i hr e0 hg hlt, fun H' => ∃ ρ h acc, HRel K cl ρ h H' ∧ Ext1 ρb hb Hb ρ h H' ∧ Ext ρ₀ h₀ H₀ ρ h H' ∧ D ∈ ρ.hid ∧ SetNow w D acc H' ∧ scL g ds mg tt bd (wipeD τ vs) (ds.drop (i + 1)) acc h = .ok accE hE,
          fun H' n => ⟨ds.length - (i + 1), by omega, rfl, hlt, n⟩, fun x H' y => ?_⟩
        obtain ⟨hr', e', rd⟩ := it.yld ρ h H i ds[i] x H' hr e0 hg (by simp [hlt]) y
        have er' : EnvR K cl ρ h H' (wipeD τ vs) (wipe σ vs) := wipe_rel ((er.mono0 e0.toExt0).mono e') vs
        have keep : ∀ {ρ' h' H''}, Ext ρ h H ρ' h' H'' → D ∈ ρ'.hid ∧ SetNow w D acc H'' := fun x => by
          obtain ⟨m1, q1⟩ := x.hid D hm
          obtain ⟨S, s1, s2⟩ := hs
          exact ⟨m1, S, q1.trans s1, s2⟩
        refine ⟨wipeD τ vs, ρ, h, ds[i], τ1, hr', er', rd, em, fun σ1 er1 l1 k1 => ⟨?_, τ1, ρ, h, hr', er1, ?_⟩⟩
        · rw [wipe_same (σ := wipe σ vs) (σ' := σ1) vs l1 fun i hi => k1 i fun z => hi (hsl i z)]
          exact wipe_same vs (wipe_length σ vs) fun i hi => wipe_out hi
        cases et : tt τ1 h with
        | err c xs h1 => simp only [et] at run; cases run
        | stuck => simp only [et] at run; cases run
        | ok k h1 =>
          intro ρ1 H3 b hr1 e1 r1
          cases r1
          have ee := e'.trans e1
          obtain ⟨m3, s3⟩ := keep ee
          cases k with
          | false =>
            simp only [et] at run
            exact iteF ⟨ρ1, h1, acc, hr1, e0.trans ee.toExt1, e.trans ee, m3, s3, run⟩
          | true =>
            simp only [et] at run
            refine iteT ?_
            cases ebd : bd τ1 acc h1 with
            | err c xs h2 => simp only [ebd] at run; cases run
            | stuck => simp only [ebd] at run; cases run
            | ok acc2 h2 =>
              simp only [ebd] at run
              refine hbd hr1 (er1.mono e1) (e.trans ee) m3 s3 ebd _ fun ρ2 H4 hr2 x0 x1 m4 s4 => ?_
              exact ⟨ρ2, h2, acc2, hr2, (e0.trans ee.toExt1).trans x0, x1, m4, s4, run⟩
    · cases run
  · have ei : i = ds.length := by omega
    subst ei
    left
    rw [List.drop_length] at run
    unfold scL at run
    split at run
    · rename_i hg
      cases run
      exact ⟨it.stop ρ _ H hr e0 hg, hfin ρ H hr e0 e hm hs⟩
    · cases run
theorem bdS_add {K : PySem.W.Frag} {cl : Str → Option Addr} {w : World} {ρ₀ : Rho} {h₀ : MH} {H₀ : Hp} {D : Addr} {te : ME} (hr0 : HRel K cl ρ₀ h₀ H₀) (hD : H₀ D = none) : BdS K cl w ρ₀ h₀ H₀ D (bAdd te) (tbAdd w (tM K cl (RD K cl) NoW te) D) := by
  intro τ σ ρ h H acc acc' h' hr er e hm hs run Nx k
  refine ⟨τ, ρ, h, hr, er, ?_⟩
  unfold bAdd at run
  split at run
  · rename_i c h1 ete
    split at run
    · rename_i hc
      have hc := of_decide_eq_true hc
      cases run
      rw [ete]
      intro ρ1 H1 v hr1 e1 r1
      obtain ⟨m1, q1⟩ := e1.hid D hm
      obtain ⟨S, s1, s2⟩ := hs
      obtain ⟨w1, w2⟩ := hr1.hidW (o := SetO w D (fun j => S j || decide (j = c)) (if S c = true then (sortU acc).length else (sortU acc).length + 1)) m1 (fun _ z => by unfold SetO at z; cases z)
      refine ⟨c, S, (sortU acc).length, RelD.intOf r1, q1.trans s1, ?_, k ρ1 _ w1 (e1.toExt1.trans w2) ((e.trans e1).hidW hr0 hD) m1 (SetNow.more s2)⟩
      have := sortU_le acc
      unfold scanBound
      omega
    · cases run
  · cases run
theorem bdS_sub {K : PySem.W.Frag} {cl : Str → Option Addr} {w : World} {ρ₀ : Rho} {h₀ : MH} {H₀ : Hp} {D : Addr} {te : ME} {mi1 : MI} {mg1 : MG} {tt1 : MT} {vs1 sl1 : List Nat} (hsl : ∀ i ∈ sl1, i ∈ vs1) (hr0 : HRel K cl ρ₀ h₀ H₀) (hD : H₀ D = none) :
    BdS K cl w ρ₀ h₀ H₀ D (bSub mi1 mg1 tt1 (bAdd te) vs1) (tbSub w (tM K cl (RI K cl) NoW mi1) (tG K cl sl1 mg1) (tM K cl RB NoW tt1) (tM K cl (RD K cl) NoW te) vs1 D) := by
  intro τ σ ρ h H acc acc' h' hr er e hm hs run Nx k
  refine ⟨τ, ρ, h, hr, er, ?_⟩
  unfold bSub at run
  split at run
  · rename_i p h1 emi
    rw [emi]
    intro ρ1 H1 J hr1 e1 it
    obtain ⟨m1, q1⟩ := e1.hid D hm
    obtain ⟨S, s1, s2⟩ := hs
    refine steps_of (bdS_add hr0 hD) hsl (er.mono e1) it ?_ hr1 (Ext.refl _ _ _).toExt1 (e.trans e1) m1 ⟨S, q1.trans s1, s2⟩ run
    intro ρ2 H2 hr2 x0 x1 m2 s3
    exact k ρ2 H2 hr2 (e1.toExt1.trans x0) x1 m2 s3
  · cases run
section
variable {X : Cx} {cl : Str → Option Addr} {W : WX} {tg iter elt : Expr} {ifs : List Expr} {scope : Scope} {own : List (Str × Nat)} {mi : MI} {mg : MG} {sl : List Nat} {tt : MT} {te : ME} {pos : Pos}
theorem sc_of {bd : MB} {tb : Addr → St → Hp → (Hp → Prop) → Prop} {vs : List Nat} (hsl : ∀ i ∈ sl, i ∈ vs) (hbd : ∀ {ρ₀ : Rho} {h₀ : MH} {H₀ : Hp} {D : Addr}, HRel X.K cl ρ₀ h₀ H₀ → H₀ D = none → BdS X.K cl X.w ρ₀ h₀ H₀ D bd (tb D))
    {σ : St} {H : Hp} {Q : VK} (q : tM X.K cl (RD X.K cl) W (eSc mi mg tt bd vs) σ H Q) :
    tSetC X.w (tM X.K cl (RI X.K cl) W mi) (tG X.K cl sl mg) (tM X.K cl RB NoW tt) tb vs σ H fun v H1 => rSortedSet X.w [v] H1 Q := by
  refine tM_bind (R1 := RI X.K cl) (f := fun τ p h1 => match scL p.2 p.1 mg tt bd (wipeD τ vs) p.1 [] h1 with
    | .ok ns h2 => endSc ns h2
    | _ => .stuck) q fun τ ρ₀ h₀ H₀ p J hr0 er0 it p0 => ?_
  intro D hD
  obtain ⟨hrD, eD⟩ := hr0.hideNew (o := SetO X.w D (fun _ => false) 0) hD (fun _ z => by unfold SetO at z; cases z)
  cases run : scL p.2 p.1 mg tt bd (wipeD τ vs) p.1 [] h₀ with
  | stuck => simp only [run] at p0; exact p0.elim
  | err c xs h1 => simp only [run] at p0; exact p0.elim
  | ok ns h1 =>
    simp only [run] at p0
    unfold endSc at p0
    split at p0
    · rename_i hlen
      have hlen := of_decide_eq_true hlen
      refine steps_of (hbd hr0 hD) hsl er0 it ?_ hrD eD.toExt1 eD List.mem_cons_self (SetNow.nil upd_same) run
      intro ρ H1 hr x0 x1 m hs
      obtain ⟨S, s1, s2⟩ := hs
      refine ⟨D, S, _, rfl, s1, hlen, fun ms p r1 r2 r3 hp => ?_⟩
      have em : ms = sortU ns := rising_one r1 (sortU_lt ns) fun k => by rw [r2 k, s2 k, sortU_mem]; simp
      subst em
      obtain ⟨u1, u2, u3⟩ := hr.unhide x1
      obtain ⟨n1, n2, n3⟩ := u1.newV (o := .lst ((sortU ns).map V.int)) hp
      exact p0 _ _ (.ref p) n1 (u3.trans n2) (.lst upd_same n3 (RelDs.ints _))
    · exact p0.elim
theorem je_sortSc1 {p : Pos} {pc : Pos} (hg0 : Gl X "sorted") (hm0 : X.mg "sorted" = none) (hc : X.calm = true) (hN : X.N.Nodup) (hi : JI cl W X tg iter mi) (ok : BlkOk X.N X.env.scope scope own) (hsl : ∀ i ∈ sl, i ∈ own.map (·.2))
    (hg : ∀ (s : Shared) (H : Hp) (C : Addr) (cls : List (Str × Addr)) (fp : List Addr), JG cl (X.blk s H scope (compEnvC scope cls C X.env) fp) tg sl mg) (ht : ∀ (s : Shared) (H : Hp) (C : Addr) (cls : List (Str × Addr)) (fp : List Addr), JTs cl NoW (X.blk s H scope (compEnvC scope cls C X.env) fp) ifs tt)
    (he : ∀ (s : Shared) (H : Hp) (C : Addr) (cls : List (Str × Addr)) (fp : List Addr), JE cl NoW (X.blk s H scope (compEnvC scope cls C X.env) fp) elt te) (hs : ∀ x, foldedSetIterable iter X.env x = pure x := by intro _; rfl)
    (hst : starEach [.SetComp elt [⟨tg, iter, ifs, 0⟩] scope pos] X.env = (false, eval (.SetComp elt [⟨tg, iter, ifs, 0⟩] scope pos) X.env) :: starEach [] X.env := by rfl) (hpl : (backTo pc (starEach [] X.env)).any (·.1) = false := by rfl) :
    JE cl W X (.Call (.Name "sorted" p) [.SetComp elt [⟨tg, iter, ifs, 0⟩] scope pos] [] pc) (eSc mi mg tt (bAdd te) (own.map (·.2))) :=
  pe_imp (pe_callB (cr_sortedSet hc) hg0 hm0 bt_sorted (pa_cons (pe_setc (tb := tbAdd X.w (tM X.K cl (RD X.K cl) NoW te)) (Bd := fun D env R K s => AddW X.prog X.w X.A env elt (.ref D) R K s) hc hN hi ok hg ht (fun _ _ _ _ => loop_sc1) (body_add he) hs) pa_nil hst) (by decide) (by decide) hst hpl)
    fun σ H Q q => sc_of hsl (fun h1 h2 => bdS_add h1 h2) q
theorem je_sortSc2 {tg1 iter1 : Expr} {ifs1 : List Expr} {mi1 : MI} {mg1 : MG} {sl1 vs1 : List Nat} {tt1 : MT} {p : Pos} {pc : Pos} (hg0 : Gl X "sorted") (hm0 : X.mg "sorted" = none) (hc : X.calm = true) (hN : X.N.Nodup) (hi : JI cl W X tg iter mi) (ok : BlkOk X.N X.env.scope scope own) (hsl : ∀ i ∈ sl, i ∈ own.map (·.2)) (hsl1 : ∀ i ∈ sl1, i ∈ vs1) (hv : ∀ i ∈ vs1, i ∈ own.map (·.2))
    (hg : ∀ (s : Shared) (H : Hp) (C : Addr) (cls : List (Str × Addr)) (fp : List Addr), JG cl (X.blk s H scope (compEnvC scope cls C X.env) fp) tg sl mg) (ht : ∀ (s : Shared) (H : Hp) (C : Addr) (cls : List (Str × Addr)) (fp : List Addr), JTs cl NoW (X.blk s H scope (compEnvC scope cls C X.env) fp) ifs tt)
    (hi1 : ∀ (s : Shared) (H : Hp) (C : Addr) (cls : List (Str × Addr)) (fp : List Addr), JI cl NoW (X.blk s H scope (compEnvC scope cls C X.env) fp) tg1 iter1 mi1)
    (hg1 : ∀ (s : Shared) (H : Hp) (C : Addr) (cls : List (Str × Addr)) (fp : List Addr), JG cl (X.blk s H scope (compEnvC scope cls C X.env) fp) tg1 sl1 mg1) (ht1 : ∀ (s : Shared) (H : Hp) (C : Addr) (cls : List (Str × Addr)) (fp : List Addr), JTs cl NoW (X.blk s H scope (compEnvC scope cls C X.env) fp) ifs1 tt1)
    (he : ∀ (s : Shared) (H : Hp) (C : Addr) (cls : List (Str × Addr)) (fp : List Addr), JE cl NoW (X.blk s H scope (compEnvC scope cls C X.env) fp) elt te) (hs1 : ∀ env x, foldedSetIterable iter1 env x = pure x := by intro _ _; rfl) (hs : ∀ x, foldedSetIterable iter X.env x = pure x := by intro _; rfl)
    (hst : starEach [.SetComp elt [⟨tg, iter, ifs, 0⟩, ⟨tg1, iter1, ifs1, 0⟩] scope pos] X.env = (false, eval (.SetComp elt [⟨tg, iter, ifs, 0⟩, ⟨tg1, iter1, ifs1, 0⟩] scope pos) X.env) :: starEach [] X.env := by rfl) (hpl : (backTo pc (starEach [] X.env)).any (·.1) = false := by rfl) :
    JE cl W X (.Call (.Name "sorted" p) [.SetComp elt [⟨tg, iter, ifs, 0⟩, ⟨tg1, iter1, ifs1, 0⟩] scope pos] [] pc) (eSc mi mg tt (bSub mi1 mg1 tt1 (bAdd te) vs1) (own.map (·.2))) :=
  pe_imp (pe_callB (cr_sortedSet hc) hg0 hm0 bt_sorted (pa_cons (pe_setc (tb := tbSub X.w (tM X.K cl (RI X.K cl) NoW mi1) (tG X.K cl sl1 mg1) (tM X.K cl RB NoW tt1) (tM X.K cl (RD X.K cl) NoW te) vs1)
      (Bd := fun D env R K s => SubW X.prog X.w X.A env iter1 (fun j => .compStart (sc2 elt tg iter ifs tg1 iter1 ifs1 scope pos) 1 j (.ref D) env) R K s) hc hN hi ok hg ht (fun env _ _ _ => loop_out (hs1 env)) (body_sub hc hv he hi1 hg1 ht1) hs) pa_nil hst) (by decide) (by decide) hst hpl)
    fun σ H Q q => sc_of hsl (fun h1 h2 => bdS_sub hsl1 h1 h2) q
end
/-! ### what must be shown -/
section
variable {Q : Dv → MH → Prop} {E : QE} {τ : MEnv} {h : MH} {g : Gd} {all : List Dv} {mg : MG} {tt : MT} {bd : MB}
theorem wE_sc {mi : MI} {vs : List Nat} (w : wR (mi τ h) (fun p h1 => ∃ ns h2, scL p.2 p.1 mg tt bd (wipeD τ vs) p.1 [] h1 = .ok ns h2 ∧ (sortU ns).length < 64 ∧ Q (.lst ((sortU ns).map .int)) h2) E) : wR (eSc mi mg tt bd vs τ h) Q E := by
  refine wR_bind (wR_mono w (fun p h1 w => ?_) fun _ _ _ e => e)
  obtain ⟨ns, h2, e, hl, q⟩ := w
  simp only [e]
  unfold endSc
  rw [if_pos (decide_eq_true hl)]
  exact wR_ok q
theorem scL_pure (p : Dv → Bool) (f : Dv → List Int) (hg : g.ok all h = true) : ∀ (ds : List Dv) (acc : List Int), acc.length + ((ds.filter p).flatMap f).length ≤ 4000 →
    (∀ d ∈ ds, ∃ τ1, mg d τ = some τ1 ∧ tt τ1 h = .ok (p d) h ∧ (p d = true → ∀ acc : List Int, acc.length + (f d).length ≤ 4000 → bd τ1 acc h = .ok (acc ++ f d) h)) →
    scL g all mg tt bd τ ds acc h = .ok (acc ++ (ds.filter p).flatMap f) h
  | [], acc, _, _ => by
    unfold scL
    rw [if_pos hg]
    simp
  | d :: ds, acc, hl, hd => by
    obtain ⟨τ1, e1, e2, e3⟩ := hd d List.mem_cons_self
    unfold scL
    rw [if_pos hg]
    simp only [e1, e2]
    cases hp : p d with
    | false =>
      rw [List.filter_cons_of_neg (by rw [hp]; exact Bool.false_ne_true)] at hl ⊢
      exact scL_pure p f hg ds acc hl fun x hx => hd x (List.mem_cons_of_mem _ hx)
    | true =>
      rw [List.filter_cons_of_pos hp, List.flatMap_cons] at hl ⊢
      rw [List.length_append] at hl
      simp only [e3 hp acc (by omega)]
      rw [scL_pure p f hg ds (acc ++ f d) (by rw [List.length_append]; omega) fun x hx => hd x (List.mem_cons_of_mem _ hx), List.append_assoc]
theorem bAdd_pure {te : ME} {c : Int} {acc : List Int} (e : te τ h = .ok (.int c) h) (hl : acc.length + 1 ≤ 4000) : bAdd te τ acc h = .ok (acc ++ [c]) h := by
  unfold bAdd
  rw [e]
  simp only
  rw [if_pos (decide_eq_true (by omega))]
end
end L2.Mi

/-! MiHouse: sorted(set(xs)), isinstance of two built-in classes. -/
namespace L2.Mi
open PySem PySem.Spec PyProof.Rows
/-! ### set(xs) of a list of ints -/
def voidSet (w : World) : Obj := { cls := .type "set", dict := none, data := .set #[] 0 (.fresh 0 0 (!w.params.followText "set-order")) }
section
variable {P : Program} {w : World} {A : Around} {E : Value → Shared → Prop} {s : Shared}
/-- the new set takes in what the list holds -/
theorem fill_list {l : Addr} {items : Array Value} {ns : List Int} (hh : A.handled = none) (hl : s.heap.IsList l items) (hi : IntsAre items.toList ns) (hb : ns.length + 1 < scanBound) {R : Result → Shared → Prop}
    (hR : ∀ h' tk c, SetR w h' s.heap.objs.size (fun j => decide (j ∈ ns)) c → c ≤ ns.length → (∀ b o, s.heap.get? b = some o → h'.get? b = some o) → R (.ok (.ret .none)) { s with heap := h', toks := tk }) :
    codeAny (model P w) A (.builtin "set.update.loop" ⟨[.ref s.heap.objs.size, .ref (s.heap.push (voidSet w)).objs.size], []⟩) R { s with heap := (s.heap.push (voidSet w)).push { cls := .type "list_iterator", data := .fields #[.ref l, .int 0 0] } } := by
  have size_eq : items.size = ns.length := by rw [← IntsAre.length hi, Array.length_toList]
  have hl' := hl
  obtain ⟨ol, hol, _⟩ := hl'
  have lt := Heap.lt_size hol
  have in1 : (s.heap.push (voidSet w)).IsList l items := hl.push _
  have ne1 : l ≠ (s.heap.push (voidSet w)).objs.size := by
    rw [Heap.size_push]; exact Nat.ne_of_lt (Nat.lt_succ_of_lt lt)
  have off : s.heap.objs.size ∉ [(s.heap.push (voidSet w)).objs.size, l] := by
    rw [Heap.size_push]
    simp only [List.mem_cons, List.not_mem_nil, or_false, not_or]
    exact ⟨Nat.ne_of_lt (Nat.lt_succ_self _), (Nat.ne_of_lt lt).symm⟩
  have vals : ∀ (i : Nat) (v : Value), items[i]? = some v → ∃ k t, ns[i]? = some k ∧ v = .int k t := by
    intro i v hv
    have lti := (Array.getElem?_eq_some_iff.mp hv).1
    obtain ⟨t, e⟩ := IntsAre.int_at hi i v (by rw [Array.getElem?_toList]; exact hv)
    have eg : ns[i]? = some (ns[i]'(by omega)) := List.getElem?_eq_getElem (by omega)
    exact ⟨_, t, eg, by rw [e, List.getD_eq_getElem?_getD, eg]; rfl⟩
  refine set_update_ints ((Walks.list (by simp [hh]) _ l ne1 items).toS) s.heap.objs.size off ns size_eq hb vals (items.size - 0) 0 _ (by omega) (Nat.zero_le _) ⟨⟨_, Heap.get?_push_size _ rfl, rfl, rfl⟩, in1.push _⟩ ?_ ?_
  · exact ⟨0, Nat.le_refl 0, setR_new_at (Heap.get?_push_of_some _ (Heap.get?_push_size _ rfl))⟩
  · intro z c hm hc hS
    have same : z = { s with heap := z.heap, toks := z.toks } := by
      have g := hm.gens
      have d := hm.drawn
      have o := hm.os
      cases z
      simp only at g d o
      subst g d o
      rfl
    rw [same]
    refine hR _ _ c hS (by omega) fun b o e => ?_
    have ltb := Heap.lt_size e
    refine hm.heap b o ?_ (Heap.get?_push_of_some _ (Heap.get?_push_of_some _ e))
    rw [Heap.size_push]
    simp only [List.mem_cons, List.not_mem_nil, or_false, not_or]
    exact ⟨Nat.ne_of_lt ltb, Nat.ne_of_lt (Nat.lt_succ_of_lt ltb)⟩
theorem call_set_lst {l : Addr} {items : Array Value} {ns : List Int} {Q : Value → Shared → Prop} (hh : A.handled = none) (hl : s.heap.IsList l items) (hi : IntsAre items.toList ns) (hb : ns.length + 1 < scanBound)
    (hQ : ∀ h' tk c, SetR w h' s.heap.objs.size (fun j => decide (j ∈ ns)) c → c ≤ ns.length → (∀ b o, s.heap.get? b = some o → h'.get? b = some o) → Q (.ref s.heap.objs.size) { s with heap := h', toks := tk }) :
    wpAny (model P w) A (call (.type "set") [.ref l]) Q E s := by
  obtain ⟨cm, tm, mro⟩ := F.called_set.mro
  have made := F.called_set.made
  have sub := F.called_set.sub
  have not_type := F.called_set.notType
  have can := F.called_set.canCreate
  have one := F.typeCall_set_1 (.ref l)
  refine wpAny_call (codeAny_of_tree ?_)
  show wpAny _ _ (callAny (.type "set") _) _ _ _
  refine wpAny_pure ⟨Code.quiet_builtin _ (by decide +kernel), codeAny_builtin F.entry_type_call ?_⟩
  rw [Around.under_plain (weight_type_call_type "set" [.ref l] []) rfl]
  repeat (any_goals first | assumption | wp_step)
  refine codeAny_mono (code_set_led1 (.ref l) (E := E) (Q₁ := fun x z => x = .ref s.heap.objs.size ∧ z = { s with heap := s.heap.push (voidSet w) }) ⟨rfl, rfl⟩) ?_
  intro r z hr
  match r, hr with
  | .error e, hr => exact hr
  | .ok (.ret x), hr =>
    obtain ⟨rfl, rfl⟩ := hr
    have at_ : (s.heap.push (voidSet w)).get? s.heap.objs.size = some (voidSet w) := Heap.get?_push_size _ rfl
    have ty : Shared.TypeIs { s with heap := s.heap.push (voidSet w) } (.ref s.heap.objs.size) "set" := ⟨_, at_, rfl⟩
    have look := F.called_set.init.lookup
    have bound := F.called_set.init.bind (.ref s.heap.objs.size)
    repeat (any_goals first | assumption | wp_step)
    refine codeAny_mono (codeAny_call_builtin (R := wants (fun x z => x = .none ∧ ∃ h' tk c, z = { s with heap := h', toks := tk } ∧ SetR w h' s.heap.objs.size (fun j => decide (j ∈ ns)) c ∧ c ≤ ns.length ∧ (∀ b o, s.heap.get? b = some o → h'.get? b = some o)) E)
      F.called_set.init.plain F.entry_set_init (check_set_init_1 ty ?_)) ?_
    · have hl2 := hl
      obtain ⟨⟨oc, od, oa, os⟩, hol, ec, nl, ed⟩ := hl2
      simp only at ec ed
      subst ec ed
      have old : (s.heap.push (voidSet w)).get? l = some { cls := .type "list", dict := od, data := .seq items nl, slots := os } := Heap.get?_push_of_some _ hol
      have no1 := F.sub_list_set
      have no2 := F.sub_list_frozenset
      have no3 : (Value.type "list" == Value.type "dict") = false := by decide
      have isl : (s.heap.push (voidSet w)).IsList l items := ⟨_, old, rfl, nl, rfl⟩
      unfold Builtin.«set.__init__» noKeywords Builtin.Frozenset.updateFrom
      generalize it : pyIter = walker
      wp_walk
      subst it
      refine wpAny_pyIter_list isl (wpAny_bind (wpAny_runValue ?_))
      refine fill_list (A := A.in1.in1) (by simp [hh]) hl hi hb fun h' tk c h1 h2 h3 => ?_
      show wpAny _ _ _ _ _ _
      refine wpAny_pure ?_
      show wpAny _ _ (ret Value.none) _ _ _
      exact wpAny_pure ⟨rfl, h', tk, c, rfl, h1, h2, h3⟩
    · intro r2 z2 hr2
      match r2, hr2 with
      | .error e, hr2 => exact hr2
      | .ok (.ret x), hr2 =>
        obtain ⟨rfl, h', tk, c, rfl, h1, h2, h3⟩ := hr2
        repeat (any_goals first | assumption | wp_step)
        exact hQ h' tk c h1 h2 h3
end
end L2.Mi

/-! MiHouse2: the rules over MiHouse. -/
namespace L2.Mi
open PySem PySem.Spec PyProof.Rows
section
variable {X : Cx} {cl : Str → Option Addr} {W : WX}
def rSetL (K : PySem.W.Frag) (w : World) : List V → Hp → VK → Prop := fun xs H Q => ∃ (l : Addr) (ns : List Int), xs = [.ref l] ∧ SqL K H l (ns.map V.int) ∧ ns.length + 1 < scanBound ∧
  ∀ (p : Addr) (n : Nat), n ≤ ns.length → H p = none → Q (.ref p) (upd H p (SetO w p (fun j => decide (j ∈ ns)) n))
theorem call_setL (hc : X.calm = true) : CallR X (.type "set") (rSetL X.K X.w) := by
  intro pins s σ H xs us Q I r h
  obtain ⟨l, ns, rfl, hq, hb, q⟩ := h
  obtain ⟨u, rfl, ru⟩ : ∃ u, us = [u] ∧ u = Value.ref l := by
    cases r with
    | cons r1 rr => cases rr; exact ⟨_, rfl, r1⟩
  subst ru
  obtain ⟨its, rv, pl, hz⟩ := I.list hq
  refine call_set_lst (I.ok.hd hc) pl.isList (RZ.intsAre_vals (by simpa using rv)) hb fun h' tk c h1 h2 h3 => ?_
  exact ⟨.ref _, upd H s.heap.objs.size (SetO X.w s.heap.objs.size (fun j => decide (j ∈ ns)) c), I.laid (t' := tk) (fun b u e => h3 b u e) (Nat.le_refl _) (setO_new h1), rfl, q _ _ h2 (I.hok.fresh (Nat.le_refl _))⟩
def rSetA (K : PySem.W.Frag) (w : World) : List V → Hp → VK → Prop := fun xs H Q => ∃ (l : Addr) (ns : List Int), xs = [.ref l] ∧ (SqL K H l (ns.map V.int) ∨ SqT K H l (ns.map V.int)) ∧ ns.length + 1 < scanBound ∧
  ∀ (p : Addr) (n : Nat), n ≤ ns.length → H p = none → Q (.ref p) (upd H p (SetO w p (fun j => decide (j ∈ ns)) n))
theorem call_setA (hc : X.calm = true) : CallR X (.type "set") (rSetA X.K X.w) := by
  intro pins s σ H xs us Q I r h
  obtain ⟨l, ns, rfl, hq, hb, q⟩ := h
  rcases hq with hq | hq
  · exact call_setL hc pins s σ H _ us Q I r ⟨l, ns, rfl, hq, hb, q⟩
  · obtain ⟨u, rfl, ru⟩ : ∃ u, us = [u] ∧ u = Value.ref l := by
      cases r with
      | cons r1 rr => cases rr; exact ⟨_, rfl, r1⟩
    subst ru
    obtain ⟨its, rv, pl, hz⟩ := I.tuple hq
    refine call_set_tupI ns (I.ok.hd hc) (show s.heap.IsTuple l its.toArray from pl) (RZ.intsAre_vals (by simpa using rv)) hb fun h' tk c h1 h2 h3 => ?_
    exact ⟨.ref _, upd H s.heap.objs.size (SetO X.w s.heap.objs.size (fun j => decide (j ∈ ns)) c), I.laid (t' := tk) (fun b u e => h3 b u e) (Nat.le_refl _) (setO_new h1), rfl, q _ _ h2 (I.hok.fresh (Nat.le_refl _))⟩
/-- sorted(set(xs)) -/
def gSortSet (ns : List Int) (h : MH) : Res Dv := if decide (ns.length < 64) = true then .ok (.lst ((sortU ns).map .int)) h else .stuck
def fSortSet := oItems rdA (onInts gSortSet)
theorem fSortSet_ne : ∀ ds h, NoErr (fSortSet ds h) := oItems_ne (onInts_ne fun ns h => by unfold gSortSet; split <;> trivial)
theorem je_sortSet {e : Expr} {m : ME} {p p2 pos q2 : Pos} (hc : X.calm = true) (hg : Gl X "sorted") (hm : X.mg "sorted" = none) (hg2 : Gl X "set") (hm2 : X.mg "set" = none) (he : JE cl W X e m)
    (hst : starEach [e] X.env = (false, eval e X.env) :: starEach [] X.env := by rfl) (hpl : (backTo q2 (starEach [] X.env)).any (·.1) = false := by rfl)
    (hst2 : starEach [.Call (.Name "set" p2) [e] [] q2] X.env = (false, eval (.Call (.Name "set" p2) [e] [] q2) X.env) :: starEach [] X.env := by rfl) (hpl2 : (backTo pos (starEach [] X.env)).any (·.1) = false := by rfl) :
    JE cl W X (.Call (.Name "sorted" p) [.Call (.Name "set" p2) [e] [] q2] [] pos) (eOps fSortSet (aCons m aNil)) := by
  refine pe_imp (pe_callB (cr_sortedSet hc) hg hm bt_sorted (pa_cons (pe_callTy (call_setA hc) hg2 hm2 bt_set (pa_cons he pa_nil hst) (by decide) (by decide) hst hpl) pa_nil hst2) (by decide) (by decide) hst2 hpl2) fun σ H Q q => ?_
  have q' : tM X.K cl (RD X.K cl) W (fun τ h => (m τ h).bind fun d h1 => fSortSet [d] h1) σ H Q := by
    obtain ⟨τ, ρ, h, hr, er, pp⟩ := q
    refine ⟨τ, ρ, h, hr, er, ?_⟩
    have e1 : eOps fSortSet (aCons m aNil) τ h = (m τ h).bind fun d h1 => fSortSet [d] h1 := by
      unfold eOps aCons aNil
      cases m τ h <;> rfl
    rw [e1] at pp
    exact pp
  refine tM_bind (R1 := RD X.K cl) (f := fun _ d h1 => fSortSet [d] h1) q' fun τ ρ1 h1 H1 d v hr1 er1 r1 p1 => ?_
  have p1 : Post X.K cl (RD X.K cl) NoW σ ρ1 h1 H1 (fSortSet [d] h1) Q := Post.wish p1 (fSortSet_ne [d] h1)
  obtain ⟨d0, xs, e0, e1, p2⟩ := oItems_some p1
  cases e0
  obtain ⟨a, vs, rfl, sq, rs⟩ := rdA_rel hr1 r1 e1
  obtain ⟨ns, rfl, p3⟩ := onInts_some rs p2
  unfold gSortSet at p3
  split at p3
  · rename_i hlen
    have hlen := of_decide_eq_true hlen
    refine ⟨a, ns, rfl, sq, by unfold scanBound; omega, fun p n hn hp => ?_⟩
    obtain ⟨n1, n2, n3⟩ := hr1.newV (o := SetO X.w p (fun j => decide (j ∈ ns)) n) hp
    refine ⟨p, _, n, rfl, upd_same, by omega, fun ms q r4 r2 r3 hq => ?_⟩
    have em : ms = sortU ns := rising_one r4 (sortU_lt ns) fun k => by rw [r2 k, sortU_mem]; simp
    subst em
    obtain ⟨m1, m2, m3⟩ := n1.newV (o := .lst ((sortU ns).map V.int)) hq
    exact p3 _ _ (.ref q) m1 (n2.trans m2) (.lst upd_same m3 (RelDs.ints _))
  · exact p3.elim
/-! ### isinstance(x, (A, B)) -/
def rIsiZT (K : PySem.W.Frag) : List V → Hp → VK → Prop := fun xs H Q => ∃ (x : V) (tp : Addr) (cs : List V) (t : Value) (us : List Value) (b : Bool), xs = [x, .ref tp] ∧ H tp = some (.tup cs) ∧ Paired ClsV cs us ∧ TyZ K H x t ∧ PySem.W.kitAny K t us = some b ∧ Q (.bl b) H
theorem call_isiZT : CallR X (.builtin "isinstance") (rIsiZT X.K) := by
  intro pins s σ H xs us Q I r h
  obtain ⟨x, tp, cs, t, ws, b, rfl, hT, k, ty, e, q⟩ := h
  cases r with
  | cons r1 rr =>
    cases rr with
    | cons r2 rr =>
      cases rr
      cases r2
      obtain ⟨Pz, Z, pz, hx⟩ := kit_ofZ I r1 ty
      obtain ⟨_, its, rv, o, g1, g2, n, g3⟩ := (show ObjOk X.prog X.w H s.heap tp (.tup cs) from I.hok tp _ hT)
      have same := ClsV.all k rv
      subst same
      cases o
      simp only at g2 g3
      subst g2 g3
      exact PySem.W.kia_tup Z I.kIn pz g1 e hx fun tk => ⟨.bl b, H, I.tok tk, rfl, q⟩
def oIsT2 (T1 T2 : String) (d : Dv) (h : MH) : Res Dv := match tyN h d with
  | some a => .ok (.bl (subTy a T1 || subTy a T2)) h
  | none => .stuck
theorem kit_two {h : MH} {d : Dv} {a T1 T2 : String} {K : PySem.W.Frag} (e : tyN h d = some a) (h1 : isBT T1 = true) (h2 : isBT T2 = true) : PySem.W.kitAny K (.type a) [.type T1, .type T2] = some (subTy a T1 || subTy a T2) := by
  refine kitAny_cons (kit_ty (kit_sub e h1)) (fun f => ?_) fun t => by rw [t]; rfl
  rw [f, Bool.false_or]
  refine kitAny_cons (kit_ty (kit_sub e h2)) (fun f => ?_) fun t => t
  rw [f]; rfl
theorem je_isT2 {T1 T2 : String} {x y : Str} {e : Expr} {m : ME} {p p2 p3 pos tpos : Pos} {kk} (hT1 : isBT T1 = true) (hT2 : isBT T2 = true) (hg : Gl X "isinstance") (hm : X.mg "isinstance" = none) (hgx : Gl X x) (hmx : X.mg x = none) (hvx : bootBuiltins x = some (.type T1)) (hgy : Gl X y) (hmy : X.mg y = none) (hvy : bootBuiltins y = some (.type T2))
    (he : JE cl W X e m) (hnx : x ≠ "__name__" := by decide) (hdx : (x == ("__debug__" : Str)) = false := by decide) (hny : y ≠ "__name__" := by decide) (hdy : (y == ("__debug__" : Str)) = false := by decide)
    (hs1 : starEach [e, .Tuple [.Name x p2, .Name y p3] kk tpos] X.env = (false, eval e X.env) :: starEach [.Tuple [.Name x p2, .Name y p3] kk tpos] X.env := by rfl) (hs2 : starEach [.Tuple [.Name x p2, .Name y p3] kk tpos] X.env = (false, eval (.Tuple [.Name x p2, .Name y p3] kk tpos) X.env) :: starEach [] X.env := by rfl)
    (hs3 : starEach [.Name x p2, .Name y p3] X.env = (false, eval (.Name x p2) X.env) :: starEach [.Name y p3] X.env := by rfl) (hs4 : starEach [.Name y p3] X.env = (false, eval (.Name y p3) X.env) :: starEach [] X.env := by rfl)
    (hpl : (backTo pos (starEach [.Tuple [.Name x p2, .Name y p3] kk tpos] X.env)).any (·.1) = false := by rfl) :
    JE cl W X (.Call (.Name "isinstance" p) [e, .Tuple [.Name x p2, .Name y p3] kk tpos] [] pos) (eOp1 (oIsT2 T1 T2) m) := by
  refine pe_imp (pe_callB call_isiZT hg hm bt_isinstance (pa_cons he (pa_cons (pe_tup (pa_cons (pe_bltn hgx hmx hvx (v := .ty T1) rfl hnx hdx) (pa_cons (pe_bltn hgy hmy hvy (v := .ty T2) rfl hny hdy) pa_nil hs4) hs3)) pa_nil hs2) hs1) (by decide) (by decide) hs1 hpl) fun σ H Q q => ?_
  refine tM_bind (R1 := RD X.K cl) (f := fun _ => oIsT2 T1 T2) q fun τ ρ1 h1 H1 d v hr1 er1 r1 p1 => ?_
  unfold oIsT2 at p1
  split at p1
  · rename_i a ea
    refine ⟨by show 2 ≤ sizeLine; decide, fun tp htp => ?_⟩
    obtain ⟨n1, n2, n3⟩ := hr1.newV (o := .tup [V.ty T1, V.ty T2]) htp
    exact ⟨v, tp, _, _, _, _, rfl, upd_same, .cons (.ty T1) (.cons (.ty T2) .nil), tyX_of n1 (r1.mono n2) ea, kit_two ea hT1 hT2, p1 ρ1 _ _ n1 n2 (.bl _)⟩
  · exact p1.elim
end
theorem wV_isT2 {Q : Dv → MH → Prop} {E : QE} {h : MH} {d : Dv} {a T1 T2 : String} (e : tyN h d = some a) (q : Q (.bl (subTy a T1 || subTy a T2)) h) : wR (oIsT2 T1 T2 d h) Q E := by
  unfold oIsT2
  rw [e]
  exact wR_ok q
theorem fSortSet_ofA {h : MH} {d : Dv} {xs : List Int} (e : rdA h d = some (xs.map Dv.int)) (hn : xs.length < 64) : fSortSet [d] h = .ok (.lst ((sortU xs).map Dv.int)) h := by
  show (match rdA h d with
    | some ys => onInts gSortSet ys h
    | none => .stuck) = _
  rw [e]
  show onInts gSortSet (xs.map Dv.int) h = _
  unfold onInts
  rw [intsOf_map]
  unfold gSortSet
  exact if_pos (decide_eq_true hn)
theorem fSortSet_of {h : MH} {d : Dv} {xs : List Int} (e : rdK h d = some (xs.map Dv.int)) (hn : xs.length < 64) : fSortSet [d] h = .ok (.lst ((sortU xs).map Dv.int)) h := fSortSet_ofA (by cases d with
  | tup ys => cases e
  | _ => exact e) hn
end L2.Mi

/-! MiDict: dicts that are read. A dict with tuple keys is marked: .non ahead of its pairs. -/
namespace L2.Mi
open PySem PySem.Spec PyProof.Rows
def dkey : Dv → Option (Key ⊕ List Key)
  | .int i => some (.inl (.inl i))
  | .str x => some (.inl (.inr x))
  | .tup [] => none
  | .tup (x :: xs) => (keyKs (x :: xs)).map .inr
  | _ => none
def dfind (k : Key ⊕ List Key) : List Dv → Option Dv
  | .tup [a, v] :: r => if dkey a = some k then some v else dfind k r
  | _ => none
/-- what a dict's pairs hold at a key of the dict's own kind: none where the key is of another kind -/
def dget (k : Key ⊕ List Key) (ps : List Dv) : Option (Option Dv) := match k, ps with
  | .inr _, .non :: r => some (dfind k r)
  | .inr _, _ => none
  | .inl _, .non :: _ => none
  | .inl _, r => some (dfind k r)
def dctOf (h : MH) : Dv → Option (List Dv)
  | .dct ps => some ps
  | .obj i => match h[i]? with
    | some (.dct ps) => some ps
    | _ => none
  | _ => none
theorem dkey_K {d : Dv} {k : Key} (e : keyK d = some k) : dkey d = some (.inl k) := by
  cases d <;> first | (cases e; rfl) | cases e
theorem dkey_T {d : Dv} {k l : List Key} (e : keyT d = some k) (hl : l ≠ []) : dkey d = some (.inr l) ↔ k = l := by
  cases d <;> first | (cases e; done) | skip
  rename_i xs
  have e : keyKs xs = some k := e
  cases xs with
  | nil =>
    cases e
    exact ⟨fun z => (by cases z), fun z => absurd z.symm hl⟩
  | cons x xs =>
    show (keyKs (x :: xs)).map _ = _ ↔ _
    rw [e]
    simp
section
variable {K : PySem.W.Frag} {cl : Str → Option Addr} {ρ : Rho} {h : MH} {H : Hp}
/-- found in both, or in none -/
def Both (K : PySem.W.Frag) (cl : Str → Option Addr) (ρ : Rho) (h : MH) (H : Hp) (a : Option Dv) (b : Option V) : Prop := (∃ d v, a = some d ∧ b = some v ∧ RelD K cl ρ h H d v) ∨ (a = none ∧ b = none)
theorem valV_cons {κ : Type} [DecidableEq κ] {p : κ × V} {kvs : List (κ × V)} {k : κ} : valV (p :: kvs) k = if p.1 = k then some p.2 else valV kvs k := by
  unfold valV
  rw [List.find?_cons]
  by_cases e : p.1 = k
  · rw [if_pos e]; simp [e]
  · rw [if_neg e]; simp [e]
theorem dfind_K {k : Key} : ∀ {ks vs : List Dv} {kvs : List (Key × V)}, keyKs ks = some (kvs.map (·.1)) → RelDs K cl ρ h H vs (kvs.map (·.2)) → Both K cl ρ h H (dfind (.inl k) (pairs ks vs)) (valV kvs k)
  | [], vs, kvs, e, r => by
    cases kvs with
    | nil => exact .inr ⟨rfl, rfl⟩
    | cons p kvs => cases e
  | d :: ks, vs, kvs, e, r => by
    unfold keyKs at e
    cases e1 : keyK d with
    | none => rw [e1] at e; cases e
    | some k1 =>
      cases e2 : keyKs ks with
      | none => rw [e1, e2] at e; cases e
      | some ks1 =>
        rw [e1, e2] at e
        cases kvs with
        | nil => cases e
        | cons p kvs =>
          cases e
          cases r with
          | cons r1 r2 =>
            rw [valV_cons]
            show Both K cl ρ h H (if dkey d = some (.inl k) then some _ else dfind (.inl k) (pairs ks _)) _
            rw [dkey_K e1]
            by_cases hk : p.1 = k
            · rw [if_pos (show (some (Sum.inl p.1) : Option (Key ⊕ List Key)) = some (.inl k) by rw [hk]), if_pos hk]
              exact .inl ⟨_, _, rfl, rfl, r1⟩
            · rw [if_neg (fun z => hk (by injection z with z; injection z)), if_neg hk]
              exact dfind_K e2 r2
theorem dfind_T {k : List Key} (hk0 : k ≠ []) : ∀ {ks vs : List Dv} {kvs : List (List Key × V)}, ks.map keyT = kvs.map (fun p => some p.1) → RelDs K cl ρ h H vs (kvs.map (·.2)) → Both K cl ρ h H (dfind (.inr k) (pairs ks vs)) (valV kvs k)
  | [], vs, kvs, e, r => by
    cases kvs with
    | nil => exact .inr ⟨rfl, rfl⟩
    | cons p kvs => cases e
  | d :: ks, vs, kvs, e, r => by
    cases kvs with
    | nil => cases e
    | cons p kvs =>
      rw [List.map_cons, List.map_cons] at e
      injection e with e1 e2
      cases r with
      | cons r1 r2 =>
        rw [valV_cons]
        show Both K cl ρ h H (if dkey d = some (.inr k) then some _ else dfind (.inr k) (pairs ks _)) _
        by_cases hk : p.1 = k
        · rw [if_pos ((dkey_T e1 hk0).mpr hk), if_pos hk]
          exact .inl ⟨_, _, rfl, rfl, r1⟩
        · rw [if_neg (fun z => hk ((dkey_T e1 hk0).mp z)), if_neg hk]
          exact dfind_T hk0 e2 r2
theorem keyKs_rel : ∀ {xs : List Dv} {vs : List V} {l : List Key}, RelDs K cl ρ h H xs vs → keyKs xs = some l → vs = l.map kV
  | [], _, _, .nil, e => by cases e; rfl
  | d :: xs, v :: vs, l, .cons r1 r2, e => by
    unfold keyKs at e
    cases e1 : keyK d with
    | none => rw [e1] at e; cases e
    | some k1 =>
      cases e2 : keyKs xs with
      | none => rw [e1, e2] at e; cases e
      | some ks1 =>
        rw [e1, e2] at e
        cases e
        rw [List.map_cons, ← keyKs_rel r2 e2]
        congr 1
        cases d <;> first | (cases e1; cases r1; rfl) | cases e1
theorem dkey_inl {d : Dv} {y : V} {k : Key} (r : RelD K cl ρ h H d y) (e : dkey d = some (.inl k)) : y = kV k := by
  cases d with
  | int i => cases e; cases r; rfl
  | str x => cases e; cases r; rfl
  | tup xs =>
    cases xs with
    | nil => cases e
    | cons x xs =>
      have e : (keyKs (x :: xs)).map (Sum.inr : List Key → Key ⊕ List Key) = some (.inl k) := e
      cases hk : keyKs (x :: xs) with
      | none => rw [hk] at e; cases e
      | some l => rw [hk] at e; cases e
  | _ => cases e
theorem dkey_inr {d : Dv} {y : V} {l : List Key} (r : RelD K cl ρ h H d y) (e : dkey d = some (.inr l)) : l ≠ [] ∧ ∃ b, y = .ref b ∧ H b = some (.tup (l.map kV)) := by
  cases d with
  | tup xs =>
    cases xs with
    | nil => cases e
    | cons x xs =>
      have e : (keyKs (x :: xs)).map (Sum.inr : List Key → Key ⊕ List Key) = some (.inr l) := e
      cases hk : keyKs (x :: xs) with
      | none => rw [hk] at e; cases e
      | some l' =>
        rw [hk] at e
        cases e
        cases r with
        | tup q rs =>
          have hv := keyKs_rel rs hk
          subst hv
          rcases q with ⟨q, _⟩ | ⟨_, q⟩
          · refine ⟨fun z => ?_, _, rfl, q⟩
            subst z
            have := rs.length
            simp at this
          · have := rs.length
            rw [q] at this
            simp at this
  | int i => cases e
  | str x => cases e
  | _ => cases e
/-- a dict that is read at a key -/
theorem dget_rel (hr : HRel K cl ρ h H) {d kd : Dv} {v y : V} {ps : List Dv} {k : Key ⊕ List Key} {o : Option Dv} (rd : RelD K cl ρ h H d v) (e : dctOf h d = some ps) (rk : RelD K cl ρ h H kd y) (ek : dkey kd = some k) (eg : dget k ps = some o) :
    ∃ a r, v = .ref a ∧ DGet H a y r ∧ Both K cl ρ h H o r := by
  have main : ∀ (a : Addr) (ks vs : List Dv), ((ps = pairs ks vs ∧ ∃ kvs : List (Key × V), Rd H a (.dK kvs) ∧ keyKs ks = some (kvs.map (·.1)) ∧ RelDs K cl ρ h H vs (kvs.map (·.2))) ∨
      (ps = .non :: pairs ks vs ∧ ∃ kvs : List (List Key × V), Rd H a (.dT kvs) ∧ ks.map keyT = kvs.map (fun p => some p.1) ∧ RelDs K cl ρ h H vs (kvs.map (·.2)))) → ∃ r, DGet H a y r ∧ Both K cl ρ h H o r := by
    intro a ks vs q
    rcases q with ⟨rfl, kvs, q1, q2, q3⟩ | ⟨rfl, kvs, q1, q2, q3⟩
    · cases k with
      | inl k =>
        have ey := dkey_inl rk ek
        have eo : o = dfind (.inl k) (pairs ks vs) := by
          unfold dget at eg
          split at eg
          · contradiction
          · contradiction
          · contradiction
          · rename_i h1 h2; cases h1; cases eg; rfl
        exact ⟨_, .inl ⟨kvs, k, q1, ey, rfl⟩, by rw [eo]; exact dfind_K q2 q3⟩
      | inr l =>
        exfalso
        cases ks with
        | nil => cases eg
        | cons k1 ks =>
          cases vs with
          | nil => cases eg
          | cons v1 vs => cases eg
    · cases k with
      | inl k => cases eg
      | inr l =>
        obtain ⟨h1, b, h2, h3⟩ := dkey_inr rk ek
        cases eg
        exact ⟨_, .inr ⟨kvs, l, b, q1, h2, h3, rfl⟩, dfind_T h1 q2 q3⟩
  cases rd with
  | dctK q n kk rs =>
    cases e
    obtain ⟨r, g1, g2⟩ := main _ _ _ (.inl ⟨rfl, _, q, kk, rs⟩)
    exact ⟨_, r, rfl, g1, g2⟩
  | dctT q n kk rs =>
    cases e
    obtain ⟨r, g1, g2⟩ := main _ _ _ (.inr ⟨rfl, _, q, kk, rs⟩)
    exact ⟨_, r, rfl, g1, g2⟩
  | @obj i b q =>
    have e : (match h[i]? with
      | some (.dct ps) => some ps
      | _ => none) = some ps := e
    cases hi : h[i]? with
    | none => rw [hi] at e; cases e
    | some c =>
      rw [hi] at e
      cases c with
      | dct ds =>
        cases e
        obtain ⟨a, ha, ks, vs, cr⟩ := hr.cells i _ hi
        rw [q] at ha; cases ha
        obtain ⟨r, g1, g2⟩ := main b ks vs (cr.elim (fun ⟨x, kvs, y1, y2⟩ => .inl ⟨x, kvs, .inl y1, y2⟩) fun ⟨x, kvs, y1, y2⟩ => .inr ⟨x, kvs, .inl y1, y2⟩)
        exact ⟨b, r, rfl, g1, g2⟩
      | _ => cases e
  | _ => cases e
end
/-! ### d[k] -/
def oDx (d i : Dv) (h : MH) : Res Dv := match dctOf h d, dkey i with
  | some ps, some k => (match dget k ps with
    | some (some x) => .ok x h
    | _ => .stuck)
  | _, _ => .stuck
section
variable {X : Cx} {cl : Str → Option Addr} {W : WX} {a b : Expr} {ma mb : ME} {pos : Pos}
theorem je_dx (hu : X.A.units + 1 < cLine) (ha : JE cl W X a ma) (hb : JE cl W X b mb) (hs : NoSl b) : JE cl W X (.Subscript a b pos) (eOp2 oDx ma mb) := by
  refine pe_imp (pe_dget hu ha hb hs) fun σ H Q q => ?_
  refine two_of (f := oDx) (r := fun x y H Q => ∃ a v, x = .ref a ∧ DGet H a y (some v) ∧ Q v H) (fun σ ρ h H d i x y Q hr ra rb p => ?_) (fun d i h => ?_) q
  · unfold oDx at p
    split at p
    · rename_i ps k e1 e2
      split at p
      · rename_i x0 e3
        obtain ⟨a0, r, ex, g, bo⟩ := dget_rel hr ra e1 rb e2 e3
        rcases bo with ⟨d0, v0, b1, b2, b3⟩ | ⟨b1, _⟩
        · cases b1
          subst b2
          exact ⟨a0, v0, ex, g, p ρ H v0 hr (.refl _ _ _) b3⟩
        · cases b1
      · exact p.elim
    · exact p.elim
  · unfold oDx
    split
    · split <;> trivial
    · trivial
end
theorem wV_dx {Q : Dv → MH → Prop} {E : QE} {h : MH} {d i x : Dv} {ps : List Dv} {k : Key ⊕ List Key} (e1 : dctOf h d = some ps) (e2 : dkey i = some k) (e3 : dget k ps = some (some x)) (q : Q x h) : wR (oDx d i h) Q E := by
  unfold oDx
  rw [e1, e2]
  simp only [e3]
  exact wR_ok q
/-! ### d.get(k, v) -/
theorem dctOf_isD {K : PySem.W.Frag} {cl : Str → Option Addr} {ρ : Rho} {h : MH} {H : Hp} (hr : HRel K cl ρ h H) {d : Dv} {v : V} {ps : List Dv} (rd : RelD K cl ρ h H d v) (e : dctOf h d = some ps) : ∃ a, v = .ref a ∧ IsD H a := by
  cases rd with
  | dctK q n kk rs => exact ⟨_, rfl, .inl ⟨_, q⟩⟩
  | dctT q n kk rs => exact ⟨_, rfl, .inr ⟨_, q⟩⟩
  | @obj i b q =>
    have e : (match h[i]? with
      | some (.dct ps) => some ps
      | _ => none) = some ps := e
    cases hi : h[i]? with
    | none => rw [hi] at e; cases e
    | some c =>
      rw [hi] at e
      cases c with
      | dct ds =>
        obtain ⟨a, ha, ks, vs, cr⟩ := hr.cells i _ hi
        rw [q] at ha; cases ha
        exact ⟨b, rfl, cr.elim (fun ⟨_, kvs, y, _⟩ => .inl ⟨kvs, .inl y⟩) fun ⟨_, kvs, y, _⟩ => .inr ⟨kvs, .inl y⟩⟩
      | _ => cases e
  | _ => cases e
def oGet2 (d i z : Dv) (h : MH) : Res Dv := match dctOf h d, dkey i with
  | some ps, some k => (match dget k ps with
    | some (some x) => .ok x h
    | some none => .ok z h
    | none => .stuck)
  | _, _ => .stuck
def eGet2 (mo mk mx : ME) : ME := fun τ h => (mo τ h).bind fun d h1 => match dctOf h1 d with
  | some _ => (mk τ h1).bind fun i h2 => (mx τ h2).bind fun z h3 => oGet2 d i z h3
  | none => .stuck
section
variable {X : Cx} {cl : Str → Option Addr} {W : WX} {o e f : Expr} {mo mk mx : ME} {apos cpos : Pos}
theorem je_get2 (hu : X.A.units + 1 < cLine) (ho : JE cl W X o mo) (he : JE cl W X e mk) (hf : JE cl W X f mx) (m : M2 X o "get" apos e f cpos) : JE cl W X (.Call (.Attribute o "get" apos) [e, f] [] cpos) (eGet2 mo mk mx) := by
  refine pe_imp (pe_dget2 hu ho he hf m) fun σ H Q q => ?_
  refine tM_bind (R1 := RD X.K cl) (f := fun τ d h1 => match dctOf h1 d with
    | some _ => (mk τ h1).bind fun i h2 => (mx τ h2).bind fun z h3 => oGet2 d i z h3
    | none => .stuck) q fun τ ρ1 h1 H1 d v hr1 er1 r1 p1 => ?_
  cases hd : dctOf h1 d with
  | none => simp only [hd] at p1; exact p1.elim
  | some ps =>
    simp only [hd] at p1
    obtain ⟨a, ea, isd⟩ := dctOf_isD hr1 r1 hd
    refine ⟨a, ea, isd, ⟨τ, ρ1, h1, hr1, er1, ?_⟩⟩
    refine Post.bind p1 fun i h2 ρ2 H2 y hr2 e2 r2 p2 => ?_
    refine ⟨τ, ρ2, h2, hr2, er1.mono e2, ?_⟩
    refine Post.bind p2 fun z h3 ρ3 H3 zv hr3 e3 r3 p3 => ?_
    unfold oGet2 at p3
    split at p3
    · rename_i ps' k q1 q2
      have rd3 := (r1.mono e2).mono e3
      have rk3 := r2.mono e3
      split at p3
      · rename_i x0 q3
        obtain ⟨a0, r, ex, g, bo⟩ := dget_rel hr3 rd3 q1 rk3 q2 q3
        rw [ea] at ex
        cases ex
        rcases bo with ⟨d0, v0, b1, b2, b3⟩ | ⟨b1, _⟩
        · cases b1
          subst b2
          exact ⟨_, g, p3 ρ3 H3 v0 hr3 (.refl _ _ _) b3⟩
        · cases b1
      · rename_i q3
        obtain ⟨a0, r, ex, g, bo⟩ := dget_rel hr3 rd3 q1 rk3 q2 q3
        rw [ea] at ex
        cases ex
        rcases bo with ⟨d0, v0, b1, b2, b3⟩ | ⟨_, b2⟩
        · cases b1
        · subst b2
          exact ⟨_, g, p3 ρ3 H3 zv hr3 (.refl _ _ _) r3⟩
      · exact p3.elim
    · exact p3.elim
end
/-! ### k in d -/
def oInD (x d : Dv) (h : MH) : Res Dv := match dctOf h d, dkey x with
  | some ps, some k => (match dget k ps with
    | some o => .ok (.bl o.isSome) h
    | none => .stuck)
  | _, _ => .stuck
def oNotInD (x d : Dv) (h : MH) : Res Dv := match dctOf h d, dkey x with
  | some ps, some k => (match dget k ps with
    | some o => .ok (.bl (!o.isSome)) h
    | none => .stuck)
  | _, _ => .stuck
section
variable {X : Cx} {cl : Str → Option Addr}
theorem or_din (hu : X.A.units + 1 < cLine) : OpR X (compareOp .In) fun x y H Q => ∃ a o, y = .ref a ∧ DGet H a x o ∧ Q (.bl o.isSome) H := by
  intro pins s σ H x y v u Q I rx ry h
  obtain ⟨a, o, rfl, g, q⟩ := h
  cases ry
  exact d_in hu I g rx fun s3 I3 => ⟨.bl o.isSome, H, I3, rfl, q⟩
theorem or_dnotin (hu : X.A.units + 1 < cLine) : OpR X (compareOp .NotIn) fun x y H Q => ∃ a o, y = .ref a ∧ DGet H a x o ∧ Q (.bl (!o.isSome)) H := by
  intro pins s σ H x y v u Q I rx ry h
  obtain ⟨a, o, rfl, g, q⟩ := h
  cases ry
  exact d_notIn hu I g rx fun s3 I3 => ⟨.bl (!o.isSome), H, I3, rfl, q⟩
theorem both_some {K : PySem.W.Frag} {ρ : Rho} {h : MH} {H : Hp} {o : Option Dv} {r : Option V} (b : Both K cl ρ h H o r) : o.isSome = r.isSome := by
  rcases b with ⟨_, _, rfl, rfl, _⟩ | ⟨rfl, rfl⟩ <;> rfl
theorem op2_inD (hu : X.A.units + 1 < cLine) : Op2 X cl (compareOp .In) oInD := by
  refine ⟨⟨_, or_din hu, fun σ ρ h H a b x y Q hr ra rb p => ?_⟩, fun a b h => ?_⟩
  · unfold oInD at p
    split at p
    · rename_i ps k e1 e2
      split at p
      · rename_i o e3
        obtain ⟨a0, r, ex, g, bo⟩ := dget_rel hr rb e1 ra e2 e3
        rw [both_some bo] at p
        exact ⟨a0, r, ex, g, p ρ H _ hr (.refl _ _ _) (.bl _)⟩
      · exact p.elim
    · exact p.elim
  · unfold oInD
    split
    · split <;> trivial
    · trivial
theorem op2_notInD (hu : X.A.units + 1 < cLine) : Op2 X cl (compareOp .NotIn) oNotInD := by
  refine ⟨⟨_, or_dnotin hu, fun σ ρ h H a b x y Q hr ra rb p => ?_⟩, fun a b h => ?_⟩
  · unfold oNotInD at p
    split at p
    · rename_i ps k e1 e2
      split at p
      · rename_i o e3
        obtain ⟨a0, r, ex, g, bo⟩ := dget_rel hr rb e1 ra e2 e3
        rw [both_some bo] at p
        exact ⟨a0, r, ex, g, p ρ H _ hr (.refl _ _ _) (.bl _)⟩
      · exact p.elim
    · exact p.elim
  · unfold oNotInD
    split
    · split <;> trivial
    · trivial
end
end L2.Mi

/-! MiDict2: dicts in cells: stores, new ones, d.get(k), setdefault. -/
namespace L2.Mi
open PySem PySem.Spec PyProof.Rows
def drepl (k : Key ⊕ List Key) (v : Dv) : List Dv → List Dv
  | .tup [a, x] :: r => .tup [a, if dkey a = some k then v else x] :: drepl k v r
  | _ => []
def dput (k : Key ⊕ List Key) (kd v : Dv) (ps : List Dv) : List Dv := if (dfind k ps).isSome = true then drepl k v ps else ps ++ [.tup [kd, v]]
/-- a dict's pairs behind d[k] = v -/
def dputM (k : Key ⊕ List Key) (kd v : Dv) (ps : List Dv) : Option (List Dv) := match k, ps with
  | .inr _, .non :: r => some (.non :: dput k kd v r)
  | .inr _, _ => none
  | .inl _, .non :: _ => none
  | .inl _, r => some (dput k kd v r)
theorem pairs_snoc : ∀ {ks vs : List Dv} {k v : Dv}, ks.length = vs.length → pairs ks vs ++ [.tup [k, v]] = pairs (ks ++ [k]) (vs ++ [v])
  | [], [], _, _, _ => rfl
  | _ :: ks, _ :: vs, k, v, h => by
    show _ :: (pairs ks vs ++ _) = _
    rw [pairs_snoc (by simpa using h)]
    rfl
  | [], _ :: _, _, _, h => by simp at h
  | _ :: _, [], _, _, h => by simp at h
theorem pairs_len : ∀ {ks vs : List Dv}, ks.length = vs.length → (pairs ks vs).length = vs.length
  | [], [], _ => rfl
  | _ :: ks, _ :: vs, h => by
    show (pairs ks vs).length + 1 = vs.length + 1
    rw [pairs_len (by simpa using h)]
  | [], _ :: _, h => by simp at h
  | _ :: _, [], h => by simp at h
theorem keyKs_len : ∀ {ks : List Dv} {l : List Key}, keyKs ks = some l → ks.length = l.length
  | [], _, e => by cases e; rfl
  | d :: ks, l, e => by
    unfold keyKs at e
    cases e1 : keyK d with
    | none => rw [e1] at e; cases e
    | some k1 =>
      cases e2 : keyKs ks with
      | none => rw [e1, e2] at e; cases e
      | some ks1 =>
        rw [e1, e2] at e
        cases e
        rw [List.length_cons, List.length_cons, keyKs_len e2]
theorem keyKs_snoc : ∀ {ks : List Dv} {l : List Key} {d : Dv} {k : Key}, keyKs ks = some l → keyK d = some k → keyKs (ks ++ [d]) = some (l ++ [k])
  | [], _, d, k, e, ed => by cases e; show keyKs [d] = some [k]; unfold keyKs; rw [ed]; rfl
  | x :: ks, l, d, k, e, ed => by
    unfold keyKs at e
    cases e1 : keyK x with
    | none => rw [e1] at e; cases e
    | some k1 =>
      cases e2 : keyKs ks with
      | none => rw [e1, e2] at e; cases e
      | some ks1 =>
        rw [e1, e2] at e
        cases e
        show keyKs (x :: (ks ++ [d])) = _
        unfold keyKs
        rw [e1, keyKs_snoc e2 ed]
        rfl
theorem keyK_of {d : Dv} {k : Key} (e : dkey d = some (.inl k)) : keyK d = some k := by
  cases d with
  | int i => cases e; rfl
  | str x => cases e; rfl
  | tup xs =>
    cases xs with
    | nil => cases e
    | cons x xs =>
      have e : (keyKs (x :: xs)).map (Sum.inr : List Key → Key ⊕ List Key) = some (.inl k) := e
      cases hk : keyKs (x :: xs) with
      | none => rw [hk] at e; cases e
      | some l => rw [hk] at e; cases e
  | _ => cases e
theorem keyT_of {d : Dv} {l : List Key} (e : dkey d = some (.inr l)) : keyT d = some l := by
  cases d with
  | int i => cases e
  | str x => cases e
  | tup xs =>
    cases xs with
    | nil => cases e
    | cons x xs =>
      have e : (keyKs (x :: xs)).map (Sum.inr : List Key → Key ⊕ List Key) = some (.inr l) := e
      cases hk : keyKs (x :: xs) with
      | none => rw [hk] at e; cases e
      | some l' => rw [hk] at e; cases e; exact hk
  | _ => cases e
section
variable {K : PySem.W.Frag} {cl : Str → Option Addr} {ρ : Rho} {h : MH} {H : Hp}
theorem both_isSome {o : Option Dv} {r : Option V} (b : Both K cl ρ h H o r) : o.isSome = r.isSome := by
  rcases b with ⟨_, _, rfl, rfl, _⟩ | ⟨rfl, rfl⟩ <;> rfl
theorem drepl_K {k : Key} {dv : Dv} {v : V} (rv : RelD K cl ρ h H dv v) : ∀ {ks vs : List Dv} {kvs : List (Key × V)}, keyKs ks = some (kvs.map (·.1)) → RelDs K cl ρ h H vs (kvs.map (·.2)) →
    ∃ vs', drepl (.inl k) dv (pairs ks vs) = pairs ks vs' ∧ RelDs K cl ρ h H vs' ((kvs.map fun kv => if kv.1 = k then (kv.1, v) else kv).map (·.2)) ∧ (kvs.map fun kv => if kv.1 = k then (kv.1, v) else kv).map (·.1) = kvs.map (·.1)
  | [], vs, kvs, e, r => by
    cases kvs with
    | nil => exact ⟨[], rfl, .nil, rfl⟩
    | cons p kvs => cases e
  | d :: ks, vs, kvs, e, r => by
    unfold keyKs at e
    cases e1 : keyK d with
    | none => rw [e1] at e; cases e
    | some k1 =>
      cases e2 : keyKs ks with
      | none => rw [e1, e2] at e; cases e
      | some ks1 =>
        rw [e1, e2] at e
        cases kvs with
        | nil => cases e
        | cons p kvs =>
          cases e
          cases r with
          | @cons x w xs ws r1 r2 =>
            obtain ⟨vs', i1, i2, i3⟩ := drepl_K rv e2 r2
            refine ⟨(if dkey d = some (.inl k) then dv else x) :: vs', ?_, ?_, ?_⟩
            · show Dv.tup [d, _] :: drepl (.inl k) dv (pairs ks xs) = _
              rw [i1]; rfl
            · rw [List.map_cons, List.map_cons]
              refine .cons ?_ i2
              rw [dkey_K e1]
              by_cases hk : p.1 = k
              · rw [if_pos (show (some (Sum.inl p.1) : Option (Key ⊕ List Key)) = some (.inl k) by rw [hk]), if_pos hk]
                exact rv
              · rw [if_neg (fun z => hk (by injection z with z; injection z)), if_neg hk]
                exact r1
            · rw [List.map_cons, List.map_cons, List.map_cons, i3]
              congr 1
              split <;> rfl
theorem drepl_T {k : List Key} (hk0 : k ≠ []) {dv : Dv} {v : V} (rv : RelD K cl ρ h H dv v) : ∀ {ks vs : List Dv} {kvs : List (List Key × V)}, ks.map keyT = kvs.map (fun p => some p.1) → RelDs K cl ρ h H vs (kvs.map (·.2)) →
    ∃ vs', drepl (.inr k) dv (pairs ks vs) = pairs ks vs' ∧ RelDs K cl ρ h H vs' ((kvs.map fun kv => if kv.1 = k then (kv.1, v) else kv).map (·.2)) ∧ (kvs.map fun kv => if kv.1 = k then (kv.1, v) else kv).map (fun p => some p.1) = kvs.map (fun p => some p.1)
  | [], vs, kvs, e, r => by
    cases kvs with
    | nil => exact ⟨[], rfl, .nil, rfl⟩
    | cons p kvs => cases e
  | d :: ks, vs, kvs, e, r => by
    cases kvs with
    | nil => cases e
    | cons p kvs =>
      rw [List.map_cons, List.map_cons] at e
      injection e with e1 e2
      cases r with
      | @cons x w xs ws r1 r2 =>
        obtain ⟨vs', i1, i2, i3⟩ := drepl_T hk0 rv e2 r2
        refine ⟨(if dkey d = some (.inr k) then dv else x) :: vs', ?_, ?_, ?_⟩
        · show Dv.tup [d, _] :: drepl (.inr k) dv (pairs ks xs) = _
          rw [i1]; rfl
        · rw [List.map_cons, List.map_cons]
          refine .cons ?_ i2
          by_cases hk : p.1 = k
          · rw [if_pos ((dkey_T e1 hk0).mpr hk), if_pos hk]
            exact rv
          · rw [if_neg (fun z => hk ((dkey_T e1 hk0).mp z)), if_neg hk]
            exact r1
        · rw [List.map_cons, List.map_cons, List.map_cons, i3]
          congr 1
          split <;> rfl
theorem dput_K {k : Key} {kd dv : Dv} {v : V} (ek : dkey kd = some (.inl k)) (rv : RelD K cl ρ h H dv v) {ks vs : List Dv} {kvs : List (Key × V)} (e : keyKs ks = some (kvs.map (·.1))) (r : RelDs K cl ρ h H vs (kvs.map (·.2))) :
    ∃ ks' vs', dput (.inl k) kd dv (pairs ks vs) = pairs ks' vs' ∧ keyKs ks' = some ((putK kvs k v).map (·.1)) ∧ RelDs K cl ρ h H vs' ((putK kvs k v).map (·.2)) := by
  have hs := both_isSome (dfind_K (k := k) e r)
  have hl : ks.length = vs.length := by rw [keyKs_len e, r.length, List.length_map, List.length_map]
  unfold dput putK
  rw [valV_any, hs]
  by_cases c : (valV kvs k).isSome = true
  · rw [if_pos c, if_pos c]
    obtain ⟨vs', i1, i2, i3⟩ := drepl_K rv e r
    exact ⟨ks, vs', i1, by rw [i3]; exact e, i2⟩
  · rw [if_neg c, if_neg c]
    refine ⟨ks ++ [kd], vs ++ [dv], pairs_snoc hl, ?_, ?_⟩
    · rw [List.map_append]; exact keyKs_snoc e (keyK_of ek)
    · rw [List.map_append]; exact r.append (.cons rv .nil)
theorem dput_T {k : List Key} (hk0 : k ≠ []) {kd dv : Dv} {v : V} (ek : dkey kd = some (.inr k)) (rv : RelD K cl ρ h H dv v) {ks vs : List Dv} {kvs : List (List Key × V)} (e : ks.map keyT = kvs.map (fun p => some p.1)) (r : RelDs K cl ρ h H vs (kvs.map (·.2))) :
    ∃ ks' vs', dput (.inr k) kd dv (pairs ks vs) = pairs ks' vs' ∧ ks'.map keyT = (putK kvs k v).map (fun p => some p.1) ∧ RelDs K cl ρ h H vs' ((putK kvs k v).map (·.2)) := by
  have hs := both_isSome (dfind_T hk0 e r)
  have hl : ks.length = vs.length := by have := congrArg List.length e; rw [List.length_map, List.length_map] at this; rw [this, r.length, List.length_map]
  unfold dput putK
  rw [valV_any, hs]
  by_cases c : (valV kvs k).isSome = true
  · rw [if_pos c, if_pos c]
    obtain ⟨vs', i1, i2, i3⟩ := drepl_T hk0 rv e r
    exact ⟨ks, vs', i1, by rw [i3]; exact e, i2⟩
  · rw [if_neg c, if_neg c]
    refine ⟨ks ++ [kd], vs ++ [dv], pairs_snoc hl, ?_, ?_⟩
    · rw [List.map_append, List.map_append, e]
      congr 1
      show [keyT kd] = [some k]
      rw [keyT_of ek]
    · rw [List.map_append]; exact r.append (.cons rv .nil)
/-- a dict's cell is written at a key -/
theorem dput_rel (hr : HRel K cl ρ h H) {c : Nat} {a : Addr} {ps qs : List Dv} {kd dv : Dv} {v y : V} {k : Key ⊕ List Key} (hc : h[c]? = some (.dct ps)) (ha : ρ.map c = some a) (rk : RelD K cl ρ h H kd y) (rv : RelD K cl ρ h H dv v) (ek : dkey kd = some k)
    (hl : lineB (ps.length + 1) = true) (eq : dputM k kd dv ps = some qs) : ∃ H', DPut H a y v H' ∧ HRel K cl ρ (h.set c (.dct qs)) H' ∧ Ext ρ h H ρ (h.set c (.dct qs)) H' := by
  obtain ⟨b, hb, ks, vs, cr⟩ := hr.cells c _ hc
  rw [ha] at hb; cases hb
  have hl := lineB_le hl
  rcases cr with ⟨rfl, kvs, e1, e2, r⟩ | ⟨rfl, kvs, e1, e2, r⟩
  · have hlen : (pairs ks vs).length = kvs.length := by
      rw [pairs_len (by rw [keyKs_len e2, r.length, List.length_map, List.length_map]), r.length, List.length_map]
    cases k with
    | inl k =>
      have eq' : qs = dput (.inl k) kd dv (pairs ks vs) := by
        unfold dputM at eq
        split at eq
        · contradiction
        · contradiction
        · contradiction
        · rename_i h1 h2; cases h1; cases eq; rfl
      obtain ⟨ks', vs', i1, i2, i3⟩ := dput_K ek rv e2 r
      rw [eq', i1]
      have ey := dkey_inl rk ek
      obtain ⟨w1, w2⟩ := hr.write (c' := .dct (pairs ks' vs')) (o := .dK (putK kvs k v)) hc rfl ha fun ee => ⟨ks', vs', .inl ⟨rfl, _, upd_same, i2, i3.mono ee⟩⟩
      exact ⟨_, by rw [ey]; exact DPut.k e1 (by omega), w1, w2⟩
    | inr l =>
      exfalso
      cases ks with
      | nil => cases eq
      | cons k1 ks =>
        cases vs with
        | nil => cases eq
        | cons v1 vs => cases eq
  · have hlen : (pairs ks vs).length = kvs.length := by
      rw [pairs_len (by have := congrArg List.length e2; rw [List.length_map, List.length_map] at this; rw [this, r.length, List.length_map]), r.length, List.length_map]
    rw [List.length_cons] at hl
    cases k with
    | inl k => cases eq
    | inr l =>
      obtain ⟨h1, b, h2, h3⟩ := dkey_inr rk ek
      cases eq
      obtain ⟨ks', vs', i1, i2, i3⟩ := dput_T h1 ek rv e2 r
      rw [i1]
      obtain ⟨w1, w2⟩ := hr.write (c' := .dct (.non :: pairs ks' vs')) (o := .dT (putK kvs l v)) hc rfl ha fun ee => ⟨ks', vs', .inr ⟨rfl, _, upd_same, i2, i3.mono ee⟩⟩
      subst h2
      exact ⟨_, DPut.t e1 h3 (by omega), w1, w2⟩
end
/-! ### d[k] = v -/
def dcell (h : MH) : Dv → Option (Nat × List Dv)
  | .obj i => match h[i]? with
    | some (.dct ps) => some (i, ps)
    | _ => none
  | _ => none
def oSetD : Dv → Dv → Dv → MH → Option MH := fun o i v h => match dcell h o, dkey i with
  | some (c, ps), some k => if lineB (ps.length + 1) = true then (dputM k i v ps).map fun qs => h.set c (.dct qs) else none
  | _, _ => none
section
variable {X : Cx} {cl : Str → Option Addr} {W : WX}
theorem dcell_rel {ρ : Rho} {h : MH} {H : Hp} {d : Dv} {v : V} {c : Nat} {ps : List Dv} (rd : RelD X.K cl ρ h H d v) (e : dcell h d = some (c, ps)) : ∃ a, v = .ref a ∧ ρ.map c = some a ∧ h[c]? = some (.dct ps) := by
  cases rd with
  | @obj j a q =>
    have e : (match h[j]? with
      | some (.dct ps) => some (j, ps)
      | _ => none) = some (c, ps) := e
    cases hj : h[j]? with
    | none => rw [hj] at e; cases e
    | some c0 =>
      rw [hj] at e
      cases c0 with
      | dct ys => cases e; exact ⟨a, rfl, q, hj⟩
      | _ => cases e
  | _ => cases e
theorem js_setd {e o i : Expr} {m mo mi : ME} {pos' pos : Pos} (hu : X.A.units + 1 < cLine) (he : JE cl W X e m) (ho : JE cl W X o mo) (hi : JE cl W X i mi) (hs : swapsWith e (some (.Subscript o i pos')) pos.line X.env = pure false := by rfl)
    (hsub : ∀ v, assign (.Subscript o i pos') X.env v = (do
      let ov ← holding [v] (eval o X.env)
      let iv ← holding [v, ov] (eval i X.env)
      standAt pos'
      holding [v, ov, iv] (setItem ov iv v)
      release [v, ov, iv] []) := by intro _; rfl) : JS cl W X (.Assign [.Subscript o i pos'] e pos) (sSetIx m mo mi oSetD) := by
  refine ps_imp (ps_dput hu ho hi he hs) fun D σ H q => ?_
  refine tS_bind (R1 := RD X.K cl) (k := fun τ v h1 => (mo τ h1).toS τ fun o h2 => (mi τ h2).toS τ fun i h3 => match oSetD o i v h3 with
    | some h4 => .nx τ h4
    | none => .stuck) q fun τ ρ1 h1 H1 d v hr1 er1 r1 p1 => ?_
  refine ⟨τ, ρ1, h1, hr1, er1, PostS.bind er1 p1 fun od h2 ρ2 H2 ov hr2 e2 r2 p2 => ?_⟩
  refine ⟨τ, ρ2, h2, hr2, er1.mono e2, PostS.bind (er1.mono e2) p2 fun id h3 ρ3 H3 iv hr3 e3 r3 p3 => ?_⟩
  cases es : oSetD od id d h3 with
  | none => simp only [es] at p3; exact p3.elim
  | some h4 =>
    simp only [es] at p3
    unfold oSetD at es
    split at es
    · rename_i c ps k ec ek
      split at es
      · rename_i hl
        cases eq : dputM k id d ps with
        | none => rw [eq] at es; cases es
        | some qs =>
          rw [eq] at es
          cases es
          obtain ⟨a, rfl, hm, hc⟩ := dcell_rel (r2.mono e3) ec
          obtain ⟨H4, g1, w1, w2⟩ := dput_rel hr3 hc hm r3 ((r1.mono e2).mono e3) ek hl eq
          exact ⟨a, H4, rfl, g1, p3 ρ3 _ σ w1 w2 (((er1.mono e2).mono e3).mono w2)⟩
      · cases es
    · cases es
/-! ### {} -/
def eDctK : ME := fun _ h => .ok (.obj h.length) (h ++ [.dct []])
def eDctT : ME := fun _ h => .ok (.obj h.length) (h ++ [.dct [.non]])
def eDct0T : ME := fun _ h => .ok (.dct [.non]) h
theorem je_dctK {pos : Pos} : JE cl W X (.Dict [] [] pos) eDctK := pe_imp pe_dnewK fun σ H Q q => by
  obtain ⟨τ, ρ, h, hr, er, p⟩ := q
  intro q hq
  obtain ⟨h1, h2⟩ := hr.push (H' := upd H q (.dK [])) (c := .dct []) hq (fun b o e => by rw [upd_ne (ne_of_none e hq)]; exact e) fun e => ⟨[], [], .inl ⟨rfl, [], upd_same, rfl, .nil⟩⟩
  exact p _ _ _ h1 h2 (.obj Rho.push_same)
theorem je_dctT {pos : Pos} : JE cl W X (.Dict [] [] pos) eDctT := pe_imp pe_dnewT fun σ H Q q => by
  obtain ⟨τ, ρ, h, hr, er, p⟩ := q
  intro q hq
  obtain ⟨h1, h2⟩ := hr.push (H' := upd H q (.dT [])) (c := .dct [.non]) hq (fun b o e => by rw [upd_ne (ne_of_none e hq)]; exact e) fun e => ⟨[], [], .inr ⟨rfl, [], upd_same, rfl, .nil⟩⟩
  exact p _ _ _ h1 h2 (.obj Rho.push_same)
theorem je_dct0T {pos : Pos} : JE cl W X (.Dict [] [] pos) eDct0T := pe_imp pe_dnewT fun σ H Q q => by
  obtain ⟨τ, ρ, h, hr, er, p⟩ := q
  intro q hq
  obtain ⟨h1, h2, h3⟩ := hr.newV (o := .dT []) hq
  exact p _ _ _ h1 h2 (.dctT (ks := []) (vs := []) (kvs := []) (.inl upd_same) h3 rfl .nil)
/-! ### d.get(k) -/
def oGet1 (d i : Dv) (h : MH) : Res Dv := match dctOf h d, dkey i with
  | some ps, some k => (match dget k ps with
    | some (some x) => .ok x h
    | some none => .ok .non h
    | none => .stuck)
  | _, _ => .stuck
def eGet1 (mo mk : ME) : ME := fun τ h => (mo τ h).bind fun d h1 => match dctOf h1 d with
  | some _ => (mk τ h1).bind fun i h2 => oGet1 d i h2
  | none => .stuck
variable {o e f : Expr} {mo mk mx : ME} {apos cpos : Pos}
theorem je_get1 (hu : X.A.units + 1 < cLine) (ho : JE cl W X o mo) (he : JE cl W X e mk) (m : M1 X o "get" apos e cpos) : JE cl W X (.Call (.Attribute o "get" apos) [e] [] cpos) (eGet1 mo mk) := by
  refine pe_imp (pe_dget1 hu ho he m) fun σ H Q q => ?_
  refine tM_bind (R1 := RD X.K cl) (f := fun τ d h1 => match dctOf h1 d with
    | some _ => (mk τ h1).bind fun i h2 => oGet1 d i h2
    | none => .stuck) q fun τ ρ1 h1 H1 d v hr1 er1 r1 p1 => ?_
  cases hd : dctOf h1 d with
  | none => simp only [hd] at p1; exact p1.elim
  | some ps =>
    simp only [hd] at p1
    obtain ⟨a, ea, isd⟩ := dctOf_isD hr1 r1 hd
    refine ⟨a, ea, isd, ⟨τ, ρ1, h1, hr1, er1, ?_⟩⟩
    refine Post.bind p1 fun i h2 ρ2 H2 y hr2 e2 r2 p2 => ?_
    unfold oGet1 at p2
    split at p2
    · rename_i ps' k q1 q2
      have rd3 := r1.mono e2
      split at p2
      · rename_i x0 q3
        obtain ⟨a0, r, ex, g, bo⟩ := dget_rel hr2 rd3 q1 r2 q2 q3
        rw [ea] at ex
        cases ex
        rcases bo with ⟨d0, v0, b1, b2, b3⟩ | ⟨b1, _⟩
        · cases b1
          subst b2
          exact ⟨_, g, p2 ρ2 H2 v0 hr2 (.refl _ _ _) b3⟩
        · cases b1
      · rename_i q3
        obtain ⟨a0, r, ex, g, bo⟩ := dget_rel hr2 rd3 q1 r2 q2 q3
        rw [ea] at ex
        cases ex
        rcases bo with ⟨d0, v0, b1, b2, b3⟩ | ⟨_, b2⟩
        · cases b1
        · subst b2
          exact ⟨_, g, p2 ρ2 H2 .non hr2 (.refl _ _ _) .non⟩
      · exact p2.elim
    · exact p2.elim
end
/-! ### d.setdefault(k, []), tuples as keys -/
section
variable {X : Cx} {pins : List (Addr × Obj)} {σ : St} {H : Hp} {s : Shared} {a b : Addr} {r : Value} {d : V} {k : List Key} {A : Around} {E : Value → Shared → Prop}
theorem d_setdT {kvs : List (List Key × V)} {Q : Value → Shared → Prop} (hu : A.units + 1 < cLine) (I : Inv X pins σ H s) (e : H a = some (.dT kvs)) (eb : H b = some (.tup (k.map kV))) (rd : RelV d r) (hl : kvs.length < sizeLine)
    (h1 : ∀ v, valV kvs k = some v → ∀ (w' : Value) (s' : Shared), Inv X pins σ H s' → RelV v w' → Q w' s') (h2 : valV kvs k = none → ∀ (w' : Value) (s' : Shared), Inv X pins σ (upd H a (.dT (putK kvs k d))) s' → RelV d w' → Q w' s') :
    wpAny (model X.prog X.w) A (call (.builtin "dict.setdefault") [.ref a, .ref b, r]) Q E s := by
  obtain ⟨z, hd, xs, rel, dd⟩ := dt_of I.hok e
  have hz : xs.length ≤ sizeLine := by rw [← Paired.length rel]; exact z
  refine call_setdefault_heap (hsz := hz) (tupleKind_room_in1 hu) (key_of I.hok eb) hd dd (fun p hp => ?_) fun hn h' dd' hs => ?_
  · have q := rel.val k
    rw [hp] at q
    cases q0 : valV kvs k with
    | none => rw [q0] at q; exact (show False from q).elim
    | some v0 => rw [q0] at q; exact h1 v0 q0 _ _ (I.tok _) q
  · have q := rel.val k
    rw [hn] at q
    cases q0 : valV kvs k with
    | some v0 => rw [q0] at q; exact (show False from q).elim
    | none =>
      have hl2 : (putK kvs k d).length ≤ sizeLine := by have := length_putK kvs k d; omega
      obtain ⟨q, es, ep, hq, g2, g3, g4, _, g5⟩ := dd'
      refine h2 q0 _ _ (d_write I (by rw [e]; exact True.intro) hs ⟨q, hq⟩ ⟨hl2, hd, _, (rel.put k eb rd).keeps fun c ys ec => ?_, q, es, ep, hq, g2, g3, g4, g5⟩) rd
      rw [upd_ne (ne_of ec e (fun z => nomatch z))]
      exact ec
end
def tDSetT (td ty tx : TE) : TE := fun σ H Q => td σ H fun x H1 => ∃ a, x = .ref a ∧ IsD H1 a ∧ ty σ H1 fun y H2 => tx σ H2 fun z H3 => ∃ (kvs : List (List Key × V)) (k : List Key) (b : Addr), H3 a = some (.dT kvs) ∧ y = .ref b ∧ H3 b = some (.tup (k.map kV)) ∧ kvs.length < sizeLine ∧
  (∀ v, valV kvs k = some v → Q v H3) ∧ (valV kvs k = none → Q z (upd H3 a (.dT (putK kvs k z))))
section
variable {X : Cx} {o e f : Expr} {td ty tx : TE} {apos cpos : Pos}
theorem pe_dsetT (hu : X.A.units + 1 < cLine) (ho : PE X o td) (he : PE X e ty) (hf : PE X f tx) (m : M2 X o "setdefault" apos e f cpos) : PE X (.Call (.Attribute o "setdefault" apos) [e, f] [] cpos) (tDSetT td ty tx) := by
  refine ⟨fun pins s σ H Q I h => ?_⟩
  refine wpAny_Call_method m.base m.few m.line PySem.F.plainAttrs_dict PySem.F.slot_dict_setdefault PySem.F.type_dict_setdefault (thn (ho.run pins s σ H _ I h) fun u s1 ⟨x, H1, I1, rx, a, ex, d, q1⟩ => ?_)
  subst ex
  obtain rfl : u = Value.ref a := rx
  obtain ⟨t1, t2, _⟩ := isD_at I1 d
  refine ⟨t1, t2, ?_⟩
  rw [m.trees]
  refine Calls.callWith_builtin rfl (Calls.evalArgs_plain (Calls.spliced_cons (thn (he.run pins s1 σ H1 _ I1 q1) fun iv s2 ⟨y, H2, I2, ry, q2⟩ =>
    Calls.spliced_cons (thn (hf.run pins s2 σ H2 _ I2 q2) fun fv s3 ⟨z, H3, I3, rz, kvs, k, b, ea, ey, eb, hl, q3, q4⟩ => Calls.spliced_nil ?_))))
  subst ey
  cases (show iv = Value.ref b from ry)
  exact d_setdT hu I3 ea eb rz hl (fun v hv w' s4 I4 rw' => ⟨v, _, I4, rw', q3 v hv⟩) fun hn w' s4 I4 rw' => ⟨z, _, I4, rw', q4 hn⟩
end
def oSetdN (d i : Dv) (h : MH) : Res Dv := match dcell h d, dkey i with
  | some (c, ps), some (.inr k) => if lineB (ps.length + 1) = true then (match dget (.inr k) ps with
    | some (some x) => .ok x h
    | some none => (match dputM (.inr k) i (.obj h.length) ps with
      | some qs => .ok (.obj h.length) (List.set (h ++ [Cell.lst []]) c (.dct qs))
      | none => .stuck)
    | none => .stuck) else .stuck
  | _, _ => .stuck
/-- a new list is a cell only where it is put into the dict -/
def eSetdN (mo mk : ME) : ME := fun τ h => (mo τ h).bind fun d h1 => match dctOf h1 d with
  | some _ => (mk τ h1).bind fun i h2 => oSetdN d i h2
  | none => .stuck
section
variable {X : Cx} {cl : Str → Option Addr} {W : WX} {o e : Expr} {mo mk : ME} {apos cpos lpos : Pos}
theorem je_setdN (hu : X.A.units + 1 < cLine) (ho : JE cl W X o mo) (he : JE cl W X e mk) (m : M2 X o "setdefault" apos e (.List [] lpos) cpos) : JE cl W X (.Call (.Attribute o "setdefault" apos) [e, .List [] lpos] [] cpos) (eSetdN mo mk) := by
  refine pe_imp (pe_dsetT hu ho he (pe_lst pa_nil) m) fun σ H Q q => ?_
  refine tM_bind (R1 := RD X.K cl) (f := fun τ d h1 => match dctOf h1 d with
    | some _ => (mk τ h1).bind fun i h2 => oSetdN d i h2
    | none => .stuck) q fun τ ρ1 h1 H1 d v hr1 er1 r1 p1 => ?_
  cases hd : dctOf h1 d with
  | none => simp only [hd] at p1; exact p1.elim
  | some ps =>
    simp only [hd] at p1
    obtain ⟨a, ea, isd⟩ := dctOf_isD hr1 r1 hd
    refine ⟨a, ea, isd, ⟨τ, ρ1, h1, hr1, er1, ?_⟩⟩
    refine Post.bind p1 fun i h2 ρ2 H2 y hr2 e2 r2 p2 => ?_
    refine ⟨by show 0 ≤ sizeLine; exact Nat.zero_le _, fun q hq => ?_⟩
    have rd2 := r1.mono e2
    unfold oSetdN at p2
    split at p2
    · rename_i c ps' k q1 q2
      split at p2
      · rename_i hl
        obtain ⟨a', ea', hm, hc⟩ := dcell_rel rd2 q1
        rw [ea] at ea'
        cases ea'
        obtain ⟨hk0, b, ey, eb⟩ := dkey_inr r2 q2
        obtain ⟨a2, ha2, ks, vs, cr⟩ := hr2.cells c _ hc
        rw [hm] at ha2; cases ha2
        have crT : ∃ kvs, ps' = .non :: pairs ks vs ∧ H2 a = some (.dT kvs) ∧ ks.map keyT = kvs.map (fun p => some p.1) ∧ RelDs X.K cl ρ2 h2 H2 vs (kvs.map (·.2)) := by
          rcases cr with ⟨rfl, kvs, g1, g2, g3⟩ | ⟨rfl, kvs, g1, g2, g3⟩
          · exfalso
            have : dget (.inr k) (pairs ks vs) = none := by
              cases ks with
              | nil => rfl
              | cons k1 ks =>
                cases vs with
                | nil => rfl
                | cons v1 vs => rfl
            rw [this] at p2
            exact p2
          · exact ⟨kvs, rfl, g1, g2, g3⟩
        obtain ⟨kvs, rfl, g1, g2, g3⟩ := crT
        have hlen : (pairs ks vs).length = kvs.length := by
          rw [pairs_len (by have := congrArg List.length g2; rw [List.length_map, List.length_map] at this; rw [this, g3.length, List.length_map]), g3.length, List.length_map]
        have nq : ∀ {p o}, H2 p = some o → p ≠ q := fun {p o} e z => by rw [z, hq] at e; cases e
        have bo := dfind_T hk0 (k := k) g2 g3
        have hlt : kvs.length < sizeLine := by
          have := lineB_le hl
          rw [List.length_cons, hlen] at this
          omega
        refine ⟨kvs, k, b, (upd_ne (nq g1)).trans g1, ey, (upd_ne (nq eb)).trans eb, hlt, fun v0 hv => ?_, fun hn => ?_⟩
        · rw [hv] at bo
          rcases bo with ⟨d0, v1, b1, b2, b3⟩ | ⟨_, b2⟩
          · cases b2
            have p2 : Post X.K cl (RD X.K cl) W σ ρ2 h2 H2 (match some (dfind (.inr k) (pairs ks vs)) with
              | some (some x) => .ok x h2
              | some none => (match dputM (.inr k) i (.obj h2.length) (.non :: pairs ks vs) with
                | some qs => .ok (.obj h2.length) (List.set (h2 ++ [Cell.lst []]) c (.dct qs))
                | none => .stuck)
              | none => .stuck) Q := p2
            rw [b1] at p2
            obtain ⟨w1, w2, w3⟩ := hr2.newV (o := .lst []) hq
            exact p2 ρ2 _ v0 w1 w2 (b3.mono w2)
          · cases b2
        · rw [hn] at bo
          rcases bo with ⟨d0, v1, b1, b2, b3⟩ | ⟨b1, _⟩
          · cases b2
          · have p2 : Post X.K cl (RD X.K cl) W σ ρ2 h2 H2 (match some (dfind (.inr k) (pairs ks vs)) with
              | some (some x) => .ok x h2
              | some none => (match dputM (.inr k) i (.obj h2.length) (.non :: pairs ks vs) with
                | some qs => .ok (.obj h2.length) (List.set (h2 ++ [Cell.lst []]) c (.dct qs))
                | none => .stuck)
              | none => .stuck) Q := p2
            rw [b1] at p2
            simp only at p2
            cases eq : dputM (.inr k) i (.obj h2.length) (.non :: pairs ks vs) with
            | none => rw [eq] at p2; exact p2.elim
            | some qs =>
              rw [eq] at p2
              obtain ⟨w1, w2⟩ := hr2.push (H' := upd H2 q (.lst [])) (c := .lst []) hq (fun b o e => by rw [upd_ne (ne_of_none e hq)]; exact e) fun e => ⟨[], upd_same, .nil⟩
              have hc' : (h2 ++ [Cell.lst []])[c]? = some (.dct (.non :: pairs ks vs)) := by
                rw [List.getElem?_append_left (List.getElem?_eq_some_iff.mp hc).1]; exact hc
              obtain ⟨H', g, x1, x2⟩ := dput_rel (y := y) w1 hc' (w2.rho _ _ hm) (r2.mono w2) (.obj Rho.push_same) q2 hl eq
              subst ey
              have eH : H' = upd (upd H2 q (.lst [])) a (.dT (putK kvs k (.ref q))) := by
                rcases g with ⟨kvs', k', g1', _, _, _⟩ | ⟨kvs', k', b', g1', g2', g3', _, g4'⟩
                · rw [upd_ne (nq g1), g1] at g1'; cases g1'
                · rw [upd_ne (nq g1), g1] at g1'
                  cases g1'
                  cases g2'
                  rw [upd_ne (nq eb), eb] at g3'
                  have ek := kVs_inj (HO.tup.inj (Option.some.inj g3'))
                  rw [g4', ek]
              rw [← eH]
              exact p2 _ _ (.ref q) x1 (w2.trans x2) (.obj (x2.rho _ _ Rho.push_same))
      · exact p2.elim
    · exact p2.elim
end
end L2.Mi

/-! MiOdd: a dict of one pair whose key is (True, 0): its display, its walk. -/
namespace L2
open PySem PySem.Spec PyProof.Rows
open L2.Mi (PinO OddO)
section
variable {X : Cx} {pins : List (Addr × Obj)} {σ : St} {H : Hp} {s : Shared} {d q : Addr} {o : Obj}
theorem Inv.pinO (I : Inv X pins σ H s) (h : H d = some (.ext (PinO d o))) : s.heap.get? d = some o := by
  obtain ⟨h1, _⟩ := (show ObjOk X.prog X.w H s.heap d (.ext (PinO d o)) from I.hok d _ h)
  exact h1
end
/-- the one key of the dict at d -/
def Ito (d : Addr) (o : Obj) (q : Addr) : It :=
  ⟨fun i H => H d = some (.ext (PinO d o)) ∧ H q = some (.tup [.bl true, .int 0]) ∧ i < 1, fun i H x H' => H' = H ∧ x = .ref q ∧ H q = some (.tup [.bl true, .int 0]), fun i H => H d = some (.ext (PinO d o)) ∧ 1 ≤ i⟩
theorem turn_odd {P : Program} {w : World} {K : PySem.W.Frag} {tg : Expr} {d q : Addr} {o : Obj} {es : Array DictEntry} {ep : Nat} {en : DictEntry} (it : Addr) (hod : o.data = .dict es ep) (hsz : es.size = 1) (hen : es[0]? = some en) (hkey : en.key = .ref q) :
    Turn P w K tg (Ito d o q) [it] it (fun i h => h.IsKeyIter it d i 1 ep) where
  mem := by simp
  obj := fun i h st b hb => by
    have e : b = it := by simpa using hb
    subst e
    obtain ⟨oi, e, c, dd⟩ := st
    exact ⟨oi, e, fun v z => by rw [dd] at z; cases z⟩
  keep := fun i h h' st k => st.at fun oi e => k it (by simp) oi e
  item := by
    intro X hP hw hK hc i pins s σ H E I hf st hg
    subst hP hw hK
    obtain ⟨hd, hq, hi⟩ := hg
    have hi : i = 0 := by omega
    subst hi
    obtain ⟨f0, f1, f2, f3, f4, f5⟩ := hf it (by simp)
    refine next_key_item st (I.pinO hd) hod hsz hen fun h' st' sb => ?_
    have I1 : Inv X pins σ H { s with heap := h' } := I.turned (t' := s.toks) (fun b ob hb e => (sb.2 b hb).trans e) f0 f1 f3 f4 f5
    obtain ⟨oi, e, c, dd⟩ := id st'
    exact ⟨en.key, rfl, go_of (s := { s with heap := h' }) e c dd (by decide) ⟨.ref q, H, I1, hkey, ⟨rfl, rfl, hq⟩, st', fun b hb => (hf b hb).1⟩⟩
  done := by
    intro X hP hw hK hc i pins s σ H E I hf st hg
    subst hP hw hK
    obtain ⟨hd, hi⟩ := hg
    obtain ⟨f0, f1, f2, f3, f4, f5⟩ := hf it (by simp)
    exact next_key_end (I.ok.hd hc) st (I.pinO hd) hod hsz hi fun h' eb => ⟨rfl, I.turned (t' := s.toks) (fun b ob hb e => eb b ob hb e) f0 f1 f3 f4 f5⟩
  self := fun A i s Q E st h => by
    refine wpAny_pyIter_slot st.typeIs F.slot_dict_keyiterator_iter (wpAny_call_entry F.slot_dict_keyiterator_iter st.typeIs F.entry_dict_keyiterator_iter ?_ (F.args_dict_keyiterator_iter_1 _))
    show wpAny _ _ (ret (.ref it)) _ _ s
    exact wpAny_pure ⟨_, rfl, "dict_keyiterator", _, st.typeIs, F.slot_dict_keyiterator_next.lookup, h⟩
def iOdd (td : TE) : TI := fun σ H R => td σ H fun x H1 => ∃ d o q, x = .ref d ∧ H1 d = some (.ext (PinO d o)) ∧ (d == sysModules) = false ∧ OddO o q ∧ R (Ito d o q) H1
theorem pi_odd {X : Cx} {tg e : Expr} {td : TE} (he : PE X e td) : PI X tg e (iOdd td) := by
  refine ⟨fun pins s σ H R I h => ?_⟩
  refine thn (he.run pins s σ H _ I h) fun u s1 ⟨x, H1, I1, rx, d, o, q, ex, hd, hs, od, qq⟩ => ?_
  subst ex
  obtain rfl : u = Value.ref d := rx
  obtain ⟨hx, es, ep, en, hdt, hsz, hen, hkey⟩ := od
  refine iter_keys hs (I1.pinO hd) hx hdt (pi_one (tk := s1.toks) I1 _ (turn_odd _ hdt hsz hen hkey) ⟨_, Heap.get?_push_size _ rfl, rfl, ?_⟩ qq)
  rw [hsz] <;> rfl
/-! ### {(True, 0): v} -/
theorem key_odd {P : Program} {w : World} {H : Hp} {h : Heap} {a : Addr} (ok : HOk P w H h) (e : H a = some (.tup [.bl true, .int 0])) : (tupleKind (leafKind P w)).is h [.num 1, .num 0] a := by
  obtain ⟨_, its, r, o, h1, h2, n, h3⟩ := (show ObjOk P w H h a (.tup [.bl true, .int 0]) from ok a _ e)
  cases r with
  | cons r1 r2 =>
    cases r2 with
    | cons r2 r3 =>
      cases r3
      cases (show _ = Value.bool true from r1)
      obtain ⟨t, e2⟩ := (show ∃ t, _ = Value.int 0 t from r2)
      subst e2
      exact ⟨o, _, n, h1, h2, h3, .cons rfl (.cons rfl .nil)⟩
def tDispO (tk tv : TE) : TE := fun σ H Q => ∀ D, H D = none → tk σ (upd H D (.dT [])) fun y H1 => tv σ H1 fun z H2 => ∃ b : Addr, y = .ref b ∧ H2 b = some (.tup [.bl true, .int 0]) ∧ H2 D = some (.dT []) ∧
  ∀ o, OddO o b → (D == sysModules) = false → Q (.ref D) (upd H2 D (.ext (PinO D o)))
theorem pe_dispO {X : Cx} {pos : Pos} {kx vx : Expr} {tk tv : TE} (hu : X.A.units < cLine) (hk : PE X kx tk) (hv : PE X vx tv) : PE X (.Dict [some kx] [vx] pos) (tDispO tk tv) := by
  refine ⟨fun pins s σ H Q I q => ?_⟩
  have hn := I.hok.fresh (Nat.le_refl s.heap.objs.size)
  have I1 := I.laid (a := s.heap.objs.size) (o := .dT []) (h' := s.heap.push { cls := .type "dict", data := .dict #[] }) (t' := s.toks) (fun _ _ q => Heap.get?_push_of_some _ q) (Nat.le_refl _) (dt_empty s.heap I.big)
  have hlen := pairTrees_length [some kx] [vx] X.env pos rfl rfl
  have h0 : pairTrees [some kx] [vx] X.env pos ≠ [] := fun e => by rw [e] at hlen; cases hlen
  rw [arm_eval_Dict, zip_pairTrees [some kx] [vx] X.env pos rfl rfl, dictDisplay_pairs (pairTrees [some kx] [vx] X.env pos) h0 (by rw [hlen]; show 1 < 17; decide)]
  refine wpAny_bind (wpAny_standAt (wpAny_bind (wpAny_subDictH (knd := tupleKind (leafKind X.prog X.w)) hu (by rw [hlen]; show 1 ≤ 15; decide) ?_)))
  refine pairTrees_cons_walk (thn (hk.run pins _ σ _ _ I1 (q _ hn)) fun u s1 ⟨y, H1, I2, ry, q1⟩ => thn (hv.run pins s1 σ H1 _ I2 q1) fun w2 s2 ⟨z, H2, I3, rz, b, ey, eb, eD, q2⟩ => pairTrees_nil_walk ?_)
  subst ey
  obtain rfl : u = Value.ref b := ry
  obtain ⟨z0, hd, xs, rel, dd⟩ := dt_of I3.hok eD
  have hx : xs = [] := List.length_eq_zero_iff.mp (Paired.length rel).symm
  subst hx
  have dd0 : s2.heap.DictOfH (tupleKind (leafKind X.prog X.w)) s.heap.objs.size [] := by
    obtain ⟨o, es, ep, hq, h2, h3, h4, _, h5⟩ := dd
    exact ⟨o, es, ep, hq, h2, h3, h4, fun x hx => (nomatch hx), List.nodup_nil⟩
  refine ⟨[([.num 1, .num 0], b, w2)], ⟨rfl, rfl, key_odd I3.hok eb, trivial⟩, dd0, fun h' tk dd' hs => wpAny_pure ?_⟩
  obtain ⟨o, es, ep, hq, h2, h3, h4, _, h5⟩ := dd'
  have hes : es.toList = [entryOfKey (tupleKind (leafKind X.prog X.w)) ([.num 1, .num 0], b, w2)] := h4
  have od : OddO o b := by
    refine ⟨h2, es, ep, entryOfKey (tupleKind (leafKind X.prog X.w)) ([.num 1, .num 0], b, w2), h3, ?_, ?_, rfl⟩
    · rw [← Array.length_toList, hes]; rfl
    · rw [← Array.getElem?_toList, hes]; rfl
  refine ⟨.ref s.heap.objs.size, upd H2 s.heap.objs.size (.ext (PinO s.heap.objs.size o)), d_write (t' := tk) I3 (by rw [eD]; exact True.intro) hs ⟨o, hq⟩ ⟨hq, ⟨o, hq⟩, fun h1 h2 p k => k o p⟩, rfl, q2 o od hd⟩
end L2
namespace L2.Mi
open PySem PySem.Spec PyProof.Rows
section
variable {K : PySem.W.Frag} {cl : Str → Option Addr} {W : WX}
theorem tup_live0 {ρ : Rho} {h : MH} {H : Hp} (r : HRel K cl ρ h H) {q : Addr} {vs : List V} (e : H q = some (.tup vs)) : ¬ Live ρ h q := fun l => by
  rcases l with ⟨i, c, hc, hl, hq⟩ | m
  · obtain ⟨a, ha, cr⟩ := r.cells i c hc
    rw [hq] at ha
    cases ha
    cases c with
    | dead => cases hl
    | lst xs => obtain ⟨vs, e1, _⟩ := cr; rw [e] at e1; cases e1
    | ins C fs => obtain ⟨Ca, dx, vfs, _, e1, _⟩ := cr; rw [e] at e1; cases e1
    | dct ds =>
      obtain ⟨ks, vs, cr⟩ := cr
      rcases cr with ⟨_, kvs, e1, _⟩ | ⟨_, kvs, e1, _⟩
      · rw [e] at e1; cases e1
      · rw [e] at e1; cases e1
  · exact r.hidT q m vs e
abbrev oddK : Dv := .tup [.bl true, .int 0]
def iOddV (i : Nat) : MI := fun τ h => match τ[i]? with
  | some (some .odd) => .ok ([oddK], .free) h
  | _ => .stuck
theorem ito_ok {ρ₀ : Rho} {h₀ : MH} {H₀ : Hp} {a q : Addr} {o : Obj} (e1 : H₀ a = some (.ext (PinO a o))) (n : ¬ Live ρ₀ h₀ a) (e2 : H₀ q = some (.tup [.bl true, .int 0])) (n2 : ¬ Live ρ₀ h₀ q) : ItOk K cl ρ₀ h₀ H₀ [oddK] .free (Ito a o q) := by
  refine ⟨fun ρ h H i hr e _ hi => ⟨(e.keep _ _ e1 n rfl).1, (e.keep _ _ e2 n2 rfl).1, hi⟩, fun ρ h H hr e _ => ⟨(e.keep _ _ e1 n rfl).1, by decide⟩, fun ρ h H i d x H' hr e _ hd y => ?_⟩
  obtain ⟨rfl, rfl, y2⟩ := y
  refine ⟨hr, .refl _ _ _, ?_⟩
  have hd0 : d = oddK := by
    cases i with
    | zero => simpa using hd.symm
    | succ i => simp at hd
  subst hd0
  exact .tup (.inl ⟨y2, tup_live0 hr y2⟩) (.cons (.bl true) (.cons (.int 0) .nil))
theorem iodd_of {i : Nat} {σ : St} {H : Hp} {R : It → Hp → Prop} (q : tM K cl (RI K cl) W (iOddV i) σ H R) : iOdd (fun σ H Q => ∃ v, σ[i]? = some (some v) ∧ Q v H) σ H R := by
  obtain ⟨τ, ρ, h, hr, er, p⟩ := q
  unfold iOddV at p
  split at p
  · rename_i et
    obtain ⟨v, ev, r⟩ := er.2 i _ et
    cases r with
    | odd q n s od q2 n2 => exact ⟨_, ev, _, _, _, rfl, q, s, od, p ρ H _ hr (.refl _ _ _) (ito_ok q n q2 n2)⟩
  · exact p.elim
end
end L2.Mi

/-! MiDict3: walks over a dict's keys, dict comprehensions. -/
namespace L2.Mi
open PySem PySem.Spec PyProof.Rows
section
variable {K : PySem.W.Frag} {cl : Str → Option Addr} {ρ ρ₀ : Rho} {h h₀ : MH} {H H₀ : Hp}
/-- what was hidden while it was made is a cell from now on -/
theorem HRel.adopt (r : HRel K cl ρ h H) (e : Ext ρ₀ h₀ H₀ ρ h H) (r₀ : HRel K cl ρ₀ h₀ H₀) {D : Addr} (hm : D ∈ ρ.hid) (hD : H₀ D = none) {c : Cell} (hc : CellR K cl ρ h H D c) :
    HRel K cl (Rho.push ⟨ρ.map, ρ₀.hid⟩ h.length D) (h ++ [c]) H ∧ Ext ρ₀ h₀ H₀ (Rho.push ⟨ρ.map, ρ₀.hid⟩ h.length D) (h ++ [c]) H := by
  have old : ∀ {i : Nat} {d : Cell}, (h ++ [c])[i]? = some d → i ≠ h.length → h[i]? = some d := fun {i d} g hi => by
    have h1 := (List.getElem?_eq_some_iff.mp g).1
    rw [List.length_append, List.length_singleton] at h1
    rw [List.getElem?_append_left (by omega)] at g
    exact g
  have sub : ∀ q, Live (Rho.push ⟨ρ.map, ρ₀.hid⟩ h.length D) (h ++ [c]) q → Live ρ h q := fun q l => by
    rcases l with ⟨i, d, hd, hl, hq⟩ | l
    · by_cases hi : i = h.length
      · subst hi
        rw [Rho.push_same] at hq
        cases hq
        exact .inr hm
      · rw [Rho.push_ne hi] at hq
        exact .inl ⟨i, d, old hd hi, hl, hq⟩
    · exact .inr (e.hid q l).1
  have rho : ∀ i a, ρ.map i = some a → (Rho.push ⟨ρ.map, ρ₀.hid⟩ h.length D).map i = some a := fun i a g => by
    rw [Rho.push_ne]
    · exact g
    · intro z
      rw [r.out i (by omega)] at g; cases g
  have ex : Ext1 ρ h H (Rho.push ⟨ρ.map, ρ₀.hid⟩ h.length D) (h ++ [c]) H := .of rho fun q u eq n => ⟨eq, fun l => n (sub q l)⟩
  have nD : ∀ {i : Nat} {d : Cell}, h[i]? = some d → d.live = true → ρ.map i ≠ some D := fun {i d} hd hl => (r.hidS D hm).2 i d hd hl
  refine ⟨⟨fun i d hd => ?_, fun i j d d' a hd hd' hl hl' ha ha' => ?_, fun i hi => ?_, fun q m => ⟨(r.hidS q (e.hid q m).1).1, fun i d hd hl g => ?_⟩, fun q m => r.hidT q (e.hid q m).1⟩, ⟨⟨⟨fun i a g => rho i a (e.rho i a g), fun q u eq n => ?_⟩, e.frz⟩, fun q m => ⟨m, (e.hid q m).2⟩, ?_⟩⟩
  · by_cases hi : i = h.length
    · subst hi
      rw [List.getElem?_append_right (Nat.le_refl _)] at hd
      have z : c = d := by simpa using hd
      subst z
      exact ⟨D, Rho.push_same, CellR.mono0 ex.toExt0 rfl hc⟩
    · obtain ⟨a, ha, q⟩ := r.cells i d (old hd hi)
      exact ⟨a, (Rho.push_ne hi).trans ha, CellR.mono0 ex.toExt0 rfl q⟩
  · by_cases hi : i = h.length
    · by_cases hj : j = h.length
      · rw [hi, hj]
      · subst hi
        rw [Rho.push_same] at ha
        cases ha
        rw [Rho.push_ne hj] at ha'
        exact absurd ha' (nD (old hd' hj) hl')
    · by_cases hj : j = h.length
      · subst hj
        rw [Rho.push_same] at ha'
        cases ha'
        rw [Rho.push_ne hi] at ha
        exact absurd ha (nD (old hd hi) hl)
      · rw [Rho.push_ne hi] at ha
        rw [Rho.push_ne hj] at ha'
        exact r.inj i j d d' a (old hd hi) (old hd' hj) hl hl' ha ha'
  · rw [List.length_append, List.length_singleton] at hi
    rw [Rho.push_ne (by omega)]
    exact r.out i (by omega)
  · by_cases hi : i = h.length
    · subst hi
      rw [Rho.push_same] at g
      cases g
      obtain ⟨o, ho⟩ := (r₀.hidS D m).1
      rw [hD] at ho; cases ho
    · rw [Rho.push_ne hi] at g
      exact (r.hidS q (e.hid q m).1).2 i d (old hd hi) hl g
  · obtain ⟨g1, g2⟩ := e.keepS q u eq n
    exact ⟨g1, fun l => g2 (sub q l)⟩
  · have := e.len
    rw [List.length_append]
    omega
theorem tup_not_live (r : HRel K cl ρ h H) {q : Addr} {vs : List V} (e : H q = some (.tup vs)) : ¬ Live ρ h q := fun l => by
  rcases l with ⟨i, c, hc, hl, hq⟩ | m
  · obtain ⟨a, ha, cr⟩ := r.cells i c hc
    rw [hq] at ha
    cases ha
    cases c with
    | dead => cases hl
    | lst xs => obtain ⟨vs, e1, _⟩ := cr; rw [e] at e1; cases e1
    | ins C fs => obtain ⟨Ca, dx, vfs, _, e1, _⟩ := cr; rw [e] at e1; cases e1
    | dct ds =>
      obtain ⟨ks, vs, cr⟩ := cr
      rcases cr with ⟨_, kvs, e1, _⟩ | ⟨_, kvs, e1, _⟩
      · rw [e] at e1; cases e1
      · rw [e] at e1; cases e1
  · exact r.hidT q m vs e
/-! ### a dict's keys -/
theorem keyK_rel {d : Dv} {k : Key} (e : keyK d = some k) : RelD K cl ρ h H d (kV k) := by
  cases d <;> first | (cases e; first | exact .int _ | exact .str _) | cases e
theorem keyKs_rels : ∀ {xs : List Dv} {l : List Key}, keyKs xs = some l → RelDs K cl ρ h H xs (l.map kV)
  | [], _, e => by cases e; exact .nil
  | d :: xs, l, e => by
    unfold keyKs at e
    cases e1 : keyK d with
    | none => rw [e1] at e; cases e
    | some k1 =>
      cases e2 : keyKs xs with
      | none => rw [e1, e2] at e; cases e
      | some ks1 =>
        rw [e1, e2] at e
        cases e
        exact .cons (keyK_rel e1) (keyKs_rels e2)
theorem keyKs_get : ∀ {ks : List Dv} {l : List Key} {i : Nat} {d : Dv}, keyKs ks = some l → ks[i]? = some d → ∃ k, l[i]? = some k ∧ keyK d = some k
  | [], _, i, _, _, e => by simp at e
  | x :: ks, l, i, d, e, ed => by
    unfold keyKs at e
    cases e1 : keyK x with
    | none => rw [e1] at e; cases e
    | some k1 =>
      cases e2 : keyKs ks with
      | none => rw [e1, e2] at e; cases e
      | some ks1 =>
        rw [e1, e2] at e
        cases e
        cases i with
        | zero => simp at ed; subst ed; exact ⟨k1, rfl, e1⟩
        | succ i =>
          obtain ⟨k, g1, g2⟩ := keyKs_get (i := i) e2 (by simpa using ed)
          exact ⟨k, by simpa using g1, g2⟩
theorem itk_ok {a : Addr} {od : Obj} {ks : List Dv} {kvs : List (Key × V)} (q : H₀ a = some (.frz od (.dK kvs))) (n : ¬ Live ρ₀ h₀ a) (hk : keyKs ks = some (kvs.map (·.1))) : ItOk K cl ρ₀ h₀ H₀ ks .free (Itk a od kvs) := by
  have hl : ks.length = kvs.length := by rw [keyKs_len hk, List.length_map]
  refine ⟨fun ρ h H i hr e _ hi => ⟨e.frz _ _ _ q n, by omega⟩, fun ρ h H hr e _ => ⟨e.frz _ _ _ q n, by omega⟩, fun ρ h H i d x H' hr e _ hd y => ?_⟩
  obtain ⟨rfl, k, v, y1, rfl⟩ := y
  obtain ⟨k', g1, g2⟩ := keyKs_get hk hd
  rw [List.getElem?_map, y1] at g1
  cases g1
  exact ⟨hr, .refl _ _ _, keyK_rel g2⟩
theorem itkt_ok {a : Addr} {od : Obj} {ks : List Dv} {kvs : List (List Key × V)} (q : H₀ a = some (.frz od (.dT kvs))) (n : ¬ Live ρ₀ h₀ a) (hk : ks.map keyT = kvs.map (fun p => some p.1)) : ItOk K cl ρ₀ h₀ H₀ ks .free (Itkt a od kvs) := by
  have hl : ks.length = kvs.length := by have := congrArg List.length hk; simpa using this
  refine ⟨fun ρ h H i hr e _ hi => ⟨e.frz _ _ _ q n, by omega⟩, fun ρ h H hr e _ => ⟨e.frz _ _ _ q n, by omega⟩, fun ρ h H i d x H' hr e _ hd y => ?_⟩
  obtain ⟨rfl, k, v, b, y1, rfl, y2⟩ := y
  have g := congrArg (fun l => l[i]?) hk
  simp only [List.getElem?_map, hd, y1, Option.map_some] at g
  have g : keyT d = some k := by simpa using g
  refine ⟨hr, .refl _ _ _, ?_⟩
  cases d with
  | tup xs => exact .tup (.inl ⟨y2, tup_not_live hr y2⟩) (keyKs_rels g)
  | _ => cases g
end
def dkeysL : List Dv → List Dv
  | .tup [a, _] :: r => a :: dkeysL r
  | _ => []
def dkeys : List Dv → List Dv
  | .non :: r => dkeysL r
  | r => dkeysL r
theorem dkeysL_pairs : ∀ {ks vs : List Dv}, ks.length = vs.length → dkeysL (pairs ks vs) = ks
  | [], [], _ => rfl
  | _ :: ks, _ :: vs, h => by
    show _ :: dkeysL (pairs ks vs) = _
    rw [dkeysL_pairs (by simpa using h)]
  | [], _ :: _, h => by simp at h
  | _ :: _, [], h => by simp at h
theorem dkeys_pairs {ks vs : List Dv} (h : ks.length = vs.length) : dkeys (pairs ks vs) = ks := by
  have : dkeys (pairs ks vs) = dkeysL (pairs ks vs) := by
    cases ks with
    | nil => rfl
    | cons k ks =>
      cases vs with
      | nil => rfl
      | cons v vs => rfl
  rw [this, dkeysL_pairs h]
/-- a dict by value in a slot, walked by keys -/
def iKeysV (i : Nat) : MI := fun τ h => match τ[i]? with
  | some (some (.dct ps)) => .ok (dkeys ps, .free) h
  | _ => .stuck
noncomputable def sForK (i : Nat) (mg : MG) (body : MS) : MS := fun τ h => match τ[i]? with
  | some (some .odd) => sFor (iOddV i) mg body τ h
  | _ => sFor (iKeysV i) mg body τ h
theorem ps_or {X : Cx} {e : Stmt} {t t' : TS} (h : PS X e t) (h' : PS X e t') : PS X e (fun D σ H => t D σ H ∨ t' D σ H) := ⟨fun pins s σ H D I q => q.elim (h.run pins s σ H D I) (h'.run pins s σ H D I)⟩
theorem pe_or {X : Cx} {e : Expr} {t t' : TE} (h : PE X e t) (h' : PE X e t') : PE X e (fun σ H Q => t σ H Q ∨ t' σ H Q) := ⟨fun pins s σ H Q I q => q.elim (h.run pins s σ H Q I) (h'.run pins s σ H Q I)⟩
section
variable {K : PySem.W.Frag} {cl : Str → Option Addr} {W : WX}
/-- a dict by value: its object, free or locked -/
theorem dct_rel {ρ : Rho} {h : MH} {H : Hp} {ps : List Dv} {v : V} (r : RelD K cl ρ h H (.dct ps) v) : ∃ a u, v = .ref a ∧ Rd H a u ∧ ¬ Live ρ h a ∧ Mut (some u) ∧ (∀ ob, strip (.frz ob u) = strip u) ∧ (∀ ob w, u ≠ .frz ob w) ∧
    ((∃ kvs, u = .dK kvs ∧ keyKs (dkeys ps) = some (kvs.map (·.1))) ∨ ∃ kvs, u = .dT kvs ∧ (dkeys ps).map keyT = kvs.map (fun p => some p.1)) := by
  generalize hd : Dv.dct ps = d at r
  cases r with
  | @dctK a ks vs kvs q n kk rs =>
    cases hd
    refine ⟨a, _, rfl, q, n, trivial, fun _ => rfl, fun _ _ z => (by cases z), .inl ⟨kvs, rfl, ?_⟩⟩
    rw [dkeys_pairs (by rw [keyKs_len kk, rs.length, List.length_map, List.length_map])]
    exact kk
  | @dctT a ks vs kvs q n kk rs =>
    cases hd
    refine ⟨a, _, rfl, q, n, trivial, fun _ => rfl, fun _ _ z => (by cases z), .inr ⟨kvs, rfl, ?_⟩⟩
    show (dkeysL (pairs ks vs)).map keyT = _
    rw [dkeysL_pairs (by have := congrArg List.length kk; rw [List.length_map, List.length_map] at this; rw [this, rs.length, List.length_map])]
    exact kk
  | _ => cases hd
/-- a walk over the keys of a dict that is locked -/
theorem ikeys_of {i : Nat} {σ : St} {H : Hp} {R : It → Hp → Prop} (q : tM K cl (RI K cl) W (iKeysV i) σ H R) (lk : ∀ a, σ[i]? = some (some (.ref a)) → ∃ o u, H a = some (.frz o u) ∧ ((∃ kvs, u = .dK kvs) ∨ ∃ kvs, u = .dT kvs)) :
    iKeys (fun σ H Q => ∃ v, σ[i]? = some (some v) ∧ Q v H) σ H R := by
  obtain ⟨τ, ρ, h, hr, er, p⟩ := q
  unfold iKeysV at p
  split at p
  · rename_i ps et
    obtain ⟨v, ev, r⟩ := er.2 i _ et
    obtain ⟨a, u, rfl, rd, n, _, _, nf, kk⟩ := dct_rel r
    obtain ⟨o, u', e1, _⟩ := lk a ev
    have eu : H a = some (.frz o u) := by
      rcases rd with rd | ⟨o', rd⟩
      · rw [e1] at rd
        cases rd
        exact absurd rfl (nf o u')
      · rw [e1] at rd
        cases rd
        exact e1
    refine ⟨.ref a, ev, a, o, rfl, ?_⟩
    rcases kk with ⟨kvs, rfl, kk⟩ | ⟨kvs, rfl, kk⟩
    · exact .inl ⟨kvs, eu, p ρ H _ hr (.refl _ _ _) (itk_ok eu n kk)⟩
    · exact .inr ⟨kvs, eu, p ρ H _ hr (.refl _ _ _) (itkt_ok eu n kk)⟩
  · exact p.elim
/-- under a lock -/
theorem PostS.lock {D : Ends} {ρ : Rho} {h : MH} {H : Hp} {a : Addr} {u : HO} {od : Obj} {r : RS} (hr : HRel K cl ρ h H) (ha : H a = some u) (n : ¬ Live ρ h a) (sf : strip (.frz od u) = strip u) (nf : ∀ ob w, u ≠ .frz ob w) (p : PostS K cl W D ρ h H r) :
    PostS K cl W ⟨fun σ' H' => H' a = some (.frz od u) ∧ D.nx σ' (upd H' a u), fun v H' => H' a = some (.frz od u) ∧ D.rt v (upd H' a u), fun σ' H' => H' a = some (.frz od u) ∧ D.bk σ' (upd H' a u), fun σ' H' => H' a = some (.frz od u) ∧ D.ct σ' (upd H' a u)⟩ ρ h (upd H a (.frz od u)) r := by
  obtain ⟨l1, l2⟩ := hr.lock ha n sf nf
  have fr : ∀ {ρ' h' H'}, Ext ρ h (upd H a (.frz od u)) ρ' h' H' → H' a = some (.frz od u) ∧ ¬ Live ρ' h' a := fun {ρ' h' H'} e =>
    ⟨e.frz a od u upd_same n, (e.keepS a _ upd_same n).2⟩
  have un : ∀ {ρ' h' H'}, HRel K cl ρ' h' H' → Ext ρ h (upd H a (.frz od u)) ρ' h' H' → HRel K cl ρ' h' (upd H' a u) ∧ Ext0 ρ' h' H' ρ' h' (upd H' a u) := fun {ρ' h' H'} hr' e => by
    obtain ⟨f1, f2⟩ := fr e
    exact hr'.relock f1 f2 sf.symm
  cases r with
  | nx τ h' => exact fun ρ' H' σ' hr' e er => ⟨(fr e).1, p ρ' _ σ' (un hr' e).1 (Ext.unlock ha n nf e) (er.mono0 (un hr' e).2)⟩
  | bk τ h' => exact fun ρ' H' σ' hr' e er => ⟨(fr e).1, p ρ' _ σ' (un hr' e).1 (Ext.unlock ha n nf e) (er.mono0 (un hr' e).2)⟩
  | ct τ h' => exact fun ρ' H' σ' hr' e er => ⟨(fr e).1, p ρ' _ σ' (un hr' e).1 (Ext.unlock ha n nf e) (er.mono0 (un hr' e).2)⟩
  | rt d h' => exact fun ρ' H' v hr' e rd => ⟨(fr e).1, p ρ' _ v (un hr' e).1 (Ext.unlock ha n nf e) (RelD.mono0 (un hr' e).2 rd)⟩
  | err c xs τ h' => exact fun ρ' H' σ' cv dd hr' e er x => p ρ' H' σ' cv dd hr' (l2.trans e) er x
  | stuck => exact p
theorem Post.lock {σ : St} {Q : VK} {ρ : Rho} {h : MH} {H : Hp} {a : Addr} {u : HO} {od : Obj} {r : Res Dv} (hr : HRel K cl ρ h H) (ha : H a = some u) (n : ¬ Live ρ h a) (sf : strip (.frz od u) = strip u) (nf : ∀ ob w, u ≠ .frz ob w) (p : Post K cl (RD K cl) W σ ρ h H r Q) :
    Post K cl (RD K cl) W σ ρ h (upd H a (.frz od u)) r fun v H' => H' a = some (.frz od u) ∧ Q v (upd H' a u) := by
  obtain ⟨l1, l2⟩ := hr.lock ha n sf nf
  have fr : ∀ {ρ' h' H'}, Ext ρ h (upd H a (.frz od u)) ρ' h' H' → H' a = some (.frz od u) ∧ ¬ Live ρ' h' a := fun {ρ' h' H'} e =>
    ⟨e.frz a od u upd_same n, (e.keepS a _ upd_same n).2⟩
  have un : ∀ {ρ' h' H'}, HRel K cl ρ' h' H' → Ext ρ h (upd H a (.frz od u)) ρ' h' H' → HRel K cl ρ' h' (upd H' a u) ∧ Ext0 ρ' h' H' ρ' h' (upd H' a u) := fun {ρ' h' H'} hr' e => by
    obtain ⟨f1, f2⟩ := fr e
    exact hr'.relock f1 f2 sf.symm
  cases r with
  | ok d h' => exact fun ρ' H' v hr' e rd => ⟨(fr e).1, p ρ' _ v (un hr' e).1 (Ext.unlock ha n nf e) (RelD.mono0 (un hr' e).2 rd)⟩
  | err c xs h' => exact fun ρ' H' cv dd hr' e x => p ρ' H' cv dd hr' (l2.trans e) x
  | stuck => exact p
end
section
variable {X : Cx} {cl : Str → Option Addr} {W : WX}
theorem js_forK {i : Nat} {x : Str} {tg : Expr} {st : List Stmt} {mg : MG} {sl : List Nat} {body : MS} {p pos : Pos} (hp : PassesOwn (model X.prog X.w) X.A X.env X.xe) (hc : X.calm = true) (hN : X.N[i]? = some x) (hv : Vis X.env.scope x) (hg : JG cl X tg sl mg) (hb : JSs cl W X st body)
    (hd : (x == ("__debug__" : Str)) = false := by decide) (hcd : (x == ("__classdict__" : Str)) = false := by decide) (hs : ∀ y, foldedSetIterable (.Name x p) X.env y = pure y := by intro _; rfl) :
    JS cl W X (.For tg (.Name x p) st [] pos) (sForK i mg body) := by
  have base := ps_for (body := st) (pos := pos) hp hc (pi_keys (tg := tg) (pe_var (pos := p) hN hv hd hcd)) hg hb hs
  have base2 := ps_for (body := st) (pos := pos) hp hc (pi_odd (tg := tg) (pe_var (pos := p) hN hv hd hcd)) hg hb hs
  refine ps_imp (ps_or (ps_or (ps_lock base) base) base2) fun D σ H q => ?_
  obtain ⟨τ, ρ, h, hr, er, pq⟩ := q
  by_cases ho : τ[i]? = some (some .odd)
  · right
    have pq2 : PostS X.K cl W D ρ h H (sFor (iOddV i) mg body τ h) := by
      have pq' : PostS X.K cl W D ρ h H (sForK i mg body τ h) := pq
      unfold sForK at pq'
      rw [ho] at pq'
      exact pq'
    exact iodd_of (for_of (sl := sl) (mi := iOddV i) (mg := mg) (body := body) (X := X) ⟨τ, ρ, h, hr, er, pq2⟩)
  left
  have pq : PostS X.K cl W D ρ h H (sFor (iKeysV i) mg body τ h) := by
    have pq' : PostS X.K cl W D ρ h H (sForK i mg body τ h) := pq
    unfold sForK at pq'
    split at pq'
    · rename_i z; exact absurd z ho
    · exact pq'
  have key : ∃ ps v, τ[i]? = some (some (.dct ps)) ∧ σ[i]? = some (some v) ∧ RelD X.K cl ρ h H (.dct ps) v := by
    have pq' : PostS X.K cl W D ρ h H ((iKeysV i τ h).toS τ fun p h1 => forL p.2 p.1 mg body p.1 τ h1) := pq
    unfold iKeysV at pq'
    split at pq'
    · rename_i ps et
      obtain ⟨v, ev, r⟩ := er.2 i _ et
      exact ⟨ps, v, et, ev, r⟩
    · exact pq'.elim
  obtain ⟨ps, v, et, ev, r⟩ := key
  obtain ⟨a, u, rfl, rd, n, mu, sf, nf, kk⟩ := dct_rel r
  have kk' : (∃ kvs, u = .dK kvs) ∨ ∃ kvs, u = .dT kvs := kk.elim (fun ⟨k, e, _⟩ => .inl ⟨k, e⟩) fun ⟨k, e, _⟩ => .inr ⟨k, e⟩
  have at_ : ∀ {b}, σ[i]? = some (some (V.ref b)) → b = a := fun {b} e => by rw [ev] at e; cases e; rfl
  rcases rd with rd | ⟨o, rd⟩
  · left
    refine ⟨a, u, rd, mu, fun od => ?_⟩
    obtain ⟨l1, l2⟩ := hr.lock rd n (sf od) nf
    have q' := for_of (sl := sl) (mi := iKeysV i) (mg := mg) (body := body) (X := X) ⟨τ, ρ, h, l1, er.mono l2, PostS.lock hr rd n (sf od) nf pq⟩
    exact ikeys_of q' fun b e => by rw [at_ e]; exact ⟨od, u, upd_same, kk'⟩
  · right
    have q' := for_of (sl := sl) (mi := iKeysV i) (mg := mg) (body := body) (X := X) ⟨τ, ρ, h, hr, er, pq⟩
    exact ikeys_of q' fun b e => by rw [at_ e]; exact ⟨o, u, rd, kk'⟩
end
end L2.Mi

/-! MiDict4: comprehensions: over a dict, of a dict, into cells. -/
namespace L2.Mi
open PySem PySem.Spec PyProof.Rows
/-- how what was made goes out: by value, as a cell -/
def mkV (acc : List Dv) (h : MH) : Res Dv := .ok (.dct acc) h
def mkC (acc : List Dv) (h : MH) : Res Dv := .ok (.obj h.length) (h ++ [.dct acc])
noncomputable def dcL (mk : List Dv → MH → Res Dv) (g : Gd) (all : List Dv) (mg : MG) (tt : MT) (tk tv : ME) (τ : MEnv) : List Dv → List Dv → MH → Res Dv
  | [], acc, h => if g.ok all h = true then mk acc h else .stuck
  | d :: ds, acc, h => if g.ok all h = true then (match mg d τ with
    | some τ1 => (match tt τ1 h with
      | .ok true h1 => (match tk τ1 h1 with
        | .ok kd h2 => (match tv τ1 h2 with
          | .ok y h3 => (match dkey kd with
            | some (.inl k) => if lineB (acc.length + 1) = true then dcL mk g all mg tt tk tv τ ds (dput (.inl k) kd y acc) h3 else .stuck
            | _ => .stuck)
          | _ => .stuck)
        | _ => .stuck)
      | .ok false h1 => dcL mk g all mg tt tk tv τ ds acc h1
      | _ => .stuck)
    | none => .stuck) else .stuck
noncomputable def eDc (mk : List Dv → MH → Res Dv) (mi : MI) (mg : MG) (tt : MT) (tk tv : ME) (vs : List Nat) : ME := fun τ h => (mi τ h).bind fun p h1 => dcL mk p.2 p.1 mg tt tk tv (wipeD τ vs) p.1 [] h1
/-- what such an end bears -/
structure MkOk (K : PySem.W.Frag) (cl : Str → Option Addr) (mk : List Dv → MH → Res Dv) : Prop where
  fin : ∀ {W : WX} {σ : St} {Q : VK} {ρ₀ : Rho} {h₀ : MH} {H₀ : Hp} {ρ : Rho} {h : MH} {H : Hp} {D : Addr} {acc : List Dv}, HRel K cl ρ₀ h₀ H₀ → HRel K cl ρ h H → Ext ρ₀ h₀ H₀ ρ h H → D ∈ ρ.hid → H₀ D = none → CellR K cl ρ h H D (.dct acc) →
    Post K cl (RD K cl) W σ ρ₀ h₀ H₀ (mk acc h) Q → Q (.ref D) H
section
variable {K : PySem.W.Frag} {cl : Str → Option Addr}
theorem hid_gone {ρ₀ ρ : Rho} {h₀ h : MH} {H₀ H : Hp} (r₀ : HRel K cl ρ₀ h₀ H₀) (r : HRel K cl ρ h H) {D : Addr} (hm : D ∈ ρ.hid) (hD : H₀ D = none) : ¬ Live ⟨ρ.map, ρ₀.hid⟩ h D := fun l => by
  rcases l with ⟨j, c, hc, hl, hj⟩ | l
  · exact (r.hidS D hm).2 j c hc hl hj
  · obtain ⟨o', ho'⟩ := (r₀.hidS D l).1
    rw [hD] at ho'; cases ho'
theorem mkV_ok : MkOk K cl mkV := by
  refine ⟨fun {W σ Q ρ₀ h₀ H₀ ρ h H D acc} r₀ r e hm hD cr p => ?_⟩
  obtain ⟨u1, u2, u3⟩ := r.unhide e
  refine p ⟨ρ.map, ρ₀.hid⟩ H (.ref D) u1 u3 ?_
  have n := hid_gone r₀ r hm hD
  obtain ⟨ks, vs, cr⟩ := cr
  rcases cr with ⟨rfl, kvs, e1, e2, rs⟩ | ⟨rfl, kvs, e1, e2, rs⟩
  · exact .dctK (.inl e1) n e2 (RelDs.mono0 u2.toExt0 rs)
  · exact .dctT (.inl e1) n e2 (RelDs.mono0 u2.toExt0 rs)
theorem mkC_ok : MkOk K cl mkC := by
  refine ⟨fun {W σ Q ρ₀ h₀ H₀ ρ h H D acc} r₀ r e hm hD cr p => ?_⟩
  obtain ⟨u1, u2⟩ := r.adopt e r₀ hm hD cr
  exact p _ H (.ref D) u1 u2 (.obj Rho.push_same)
end
section
variable {X : Cx} {cl : Str → Option Addr} {W : WX} {tg iter elt kx vx : Expr} {ifs : List Expr} {scope : Scope} {own : List (Str × Nat)} {mi : MI} {mg : MG} {sl : List Nat} {tt : MT} {te tk tv : ME} {pos : Pos} {mk : List Dv → MH → Res Dv}
theorem dc_of (hmk : MkOk X.K cl mk) {vs : List Nat} (hsl : ∀ i ∈ sl, i ∈ vs) {σ : St} {H : Hp} {Q : VK} (q : tM X.K cl (RD X.K cl) W (eDc mk mi mg tt tk tv vs) σ H Q) :
    tDc (tM X.K cl (RI X.K cl) W mi) (tG X.K cl sl mg) (tM X.K cl RB NoW tt) (tM X.K cl (RD X.K cl) NoW tk) (tM X.K cl (RD X.K cl) NoW tv) vs σ H Q := by
  refine tM_bind (R1 := RI X.K cl) (f := fun τ p h1 => dcL mk p.2 p.1 mg tt tk tv (wipeD τ vs) p.1 [] h1) q fun τ₀ ρ₀ h₀ H₀ p J hr0 er0 it p0 => ?_
  obtain ⟨ds, g⟩ := p
  have it : ItOk X.K cl ρ₀ h₀ H₀ ds g J := it
  have p0 : Post X.K cl (RD X.K cl) W σ ρ₀ h₀ H₀ (dcL mk g ds mg tt tk tv (wipeD τ₀ vs) ds [] h₀) Q := p0
  intro D hD
  obtain ⟨hrD, eD⟩ := hr0.hideNew (o := .dK []) hD
  refine ⟨fun i m H => m = ds.length - i ∧ i ≤ ds.length ∧ ∃ ρ h ks ws kvs, HRel X.K cl ρ h H ∧ Ext ρ₀ h₀ H₀ ρ h H ∧ D ∈ ρ.hid ∧ H D = some (.dK kvs) ∧ keyKs ks = some (kvs.map (·.1)) ∧ RelDs X.K cl ρ h H ws (kvs.map (·.2)) ∧
      Post X.K cl (RD X.K cl) W σ ρ₀ h₀ H₀ (dcL mk g ds mg tt tk tv (wipeD τ₀ vs) (ds.drop i) (pairs ks ws) h) Q,
    ⟨ds.length, by simp, Nat.zero_le _, ρ₀.hide D, h₀, [], [], [], hrD, eD, List.mem_cons_self, upd_same, rfl, .nil, p0⟩, ?_⟩
  rintro i m H ⟨rfl, hi, ρ, h, ks, ws, kvs, hr, e, hm, hDl, hk, ra, p⟩
  by_cases hlt : i < ds.length
  · right
    rw [drop_cons hlt] at p
    unfold dcL at p
    split at p
    · rename_i hg
      cases em : mg ds[i] (wipeD τ₀ vs) with
      | none => simp only [em] at p; exact p.elim
      | some τ1 =>
        simp only [em] at p
        refine ⟨it.go ρ h H i hr e.toExt1 hg hlt, fun H' => ∃ ρ h ks ws kvs, HRel X.K cl ρ h H' ∧ Ext ρ₀ h₀ H₀ ρ h H' ∧ D ∈ ρ.hid ∧ H' D = some (.dK kvs) ∧ keyKs ks = some (kvs.map (·.1)) ∧ RelDs X.K cl ρ h H' ws (kvs.map (·.2)) ∧
            Post X.K cl (RD X.K cl) W σ ρ₀ h₀ H₀ (dcL mk g ds mg tt tk tv (wipeD τ₀ vs) (ds.drop (i + 1)) (pairs ks ws) h) Q,
          fun H' n => ⟨ds.length - (i + 1), by omega, rfl, hlt, n⟩, fun x H' y => ?_⟩
        obtain ⟨hr', e', rd⟩ := it.yld ρ h H i ds[i] x H' hr e.toExt1 hg (by simp [hlt]) y
        have er' : EnvR X.K cl ρ h H' (wipeD τ₀ vs) (wipe σ vs) := wipe_rel ((er0.mono e).mono e') vs
        refine ⟨wipeD τ₀ vs, ρ, h, ds[i], τ1, hr', er', rd, em, fun σ1 er1 l1 k1 => ⟨?_, ?_⟩⟩
        · rw [wipe_same (σ := wipe σ vs) (σ' := σ1) vs l1 fun i hi => k1 i fun z => hi (hsl i z)]
          exact wipe_same vs (wipe_length σ vs) fun i hi => wipe_out hi
        · refine ⟨τ1, ρ, h, hr', er1, ?_⟩
          cases et : tt τ1 h with
          | err c xs h1 => simp only [et] at p; exact p.elim
          | stuck => simp only [et] at p; exact p.elim
          | ok b h1 =>
            intro ρ1 H3 b' hr1 e1 r1
            cases r1
            have hD3 : D ∈ ρ1.hid ∧ H3 D = some (.dK kvs) := ⟨(e1.hid D hm).1, (e1.hid D hm).2.trans ((e'.hid D hm).2.trans hDl)⟩
            cases b with
            | false =>
              simp only [et] at p
              exact iteF ⟨ρ1, h1, ks, ws, kvs, hr1, (e.trans e').trans e1, hD3.1, hD3.2, hk, (ra.mono e').mono e1, p⟩
            | true =>
              simp only [et] at p
              refine iteT ⟨τ1, ρ1, h1, hr1, er1.mono e1, ?_⟩
              cases ek : tk τ1 h1 with
              | err c xs h2 => simp only [ek] at p; exact p.elim
              | stuck => simp only [ek] at p; exact p.elim
              | ok kd h2 =>
                simp only [ek] at p
                intro ρ2 H4 ky hr2 e2 r2
                have hD4 : D ∈ ρ2.hid ∧ H4 D = some (.dK kvs) := ⟨(e2.hid D hD3.1).1, (e2.hid D hD3.1).2.trans hD3.2⟩
                refine ⟨τ1, ρ2, h2, hr2, (er1.mono e1).mono e2, ?_⟩
                cases ev : tv τ1 h2 with
                | err c xs h3 => simp only [ev] at p; exact p.elim
                | stuck => simp only [ev] at p; exact p.elim
                | ok y h3 =>
                  simp only [ev] at p
                  intro ρ3 H5 z hr3 e3 r3
                  have hD5 : D ∈ ρ3.hid ∧ H5 D = some (.dK kvs) := ⟨(e3.hid D hD4.1).1, (e3.hid D hD4.1).2.trans hD4.2⟩
                  split at p
                  · rename_i k edk
                    split at p
                    · rename_i hln
                      have ey := dkey_inl (r2.mono e3) edk
                      have ra5 := ((((ra.mono e').mono e1).mono e2).mono e3)
                      obtain ⟨ks', ws', i1, i2, i3⟩ := dput_K edk r3 hk ra5
                      have hlen : (pairs ks ws).length = kvs.length := by rw [pairs_len (by rw [keyKs_len hk, ra.length, List.length_map, List.length_map]), ra.length, List.length_map]
                      have hl := lineB_le hln
                      rw [hlen] at hl
                      obtain ⟨w1, w2⟩ := hr3.hidW (o := .dK (putK kvs k z)) hD5.1
                      rw [i1] at p
                      exact ⟨kvs, k, ey, hD5.2, by omega, ρ3, h3, ks', ws', _, w1, (((((e.trans e').trans e1).trans e2).trans e3).hidW hr0 hD), hD5.1, upd_same, i2, RelDs.mono0 w2.toExt0 i3, p⟩
                    · exact p.elim
                  · exact p.elim
    · exact p.elim
  · have ei : i = ds.length := by omega
    subst ei
    left
    rw [List.drop_length] at p
    unfold dcL at p
    split at p
    · rename_i hg
      exact ⟨it.stop ρ h H hr e.toExt1 hg, hmk.fin hr0 hr e hm hD ⟨ks, ws, .inl ⟨rfl, kvs, hDl, hk, ra⟩⟩ p⟩
    · exact p.elim
abbrev Blk (X : Cx) (scope : Scope) (F : Cx → Prop) : Prop := ∀ (s : Shared) (H : Hp) (C : Addr) (cls : List (Str × Addr)) (fp : List Addr), F (X.blk s H scope (compEnvC scope cls C X.env) fp)
theorem je_dc (hmk : MkOk X.K cl mk) (hc : X.calm = true) (hN : X.N.Nodup) (hi : JI cl W X tg iter mi) (ok : BlkOk X.N X.env.scope scope own) (hsl : ∀ i ∈ sl, i ∈ own.map (·.2))
    (hg : Blk X scope fun Y => JG cl Y tg sl mg) (ht : Blk X scope fun Y => JTs cl NoW Y ifs tt) (hk : Blk X scope fun Y => JE cl NoW Y kx tk) (he : Blk X scope fun Y => JE cl NoW Y vx tv) (hs : ∀ x, foldedSetIterable iter X.env x = pure x := by intro _; rfl) :
    JE cl W X (.DictComp kx vx [⟨tg, iter, ifs, 0⟩] scope pos) (eDc mk mi mg tt tk tv (own.map (·.2))) :=
  pe_imp (pe_dc hc hN hi ok hg ht hk he hs) fun σ H Q q => dc_of hmk hsl q
/-- y = {k: v for ..}, stored within the comprehension's frame -/
theorem ps_setDc {i : Nat} {y : Str} {py spos : Pos} {wi : TI} {g : TG} {ttt : TT} {ttk ttv : TE} (hc : X.calm = true) (hN : X.N.Nodup) (hy : X.N[i]? = some y) (hyl : X.env.scope.names.lookup y = some .local)
    (hsw : swapsWith (.DictComp kx vx [⟨tg, iter, ifs, 0⟩] scope pos) (some (.Name y py)) spos.line X.env = pure true) (hi : PI X tg iter wi) (ok : BlkOk X.N X.env.scope scope own)
    (hg : Blk X scope fun Y => PG Y tg g) (ht : Blk X scope fun Y => PTs Y ifs ttt) (hk : Blk X scope fun Y => PE Y kx ttk) (he : Blk X scope fun Y => PE Y vx ttv) (hs : ∀ x, foldedSetIterable iter X.env x = pure x := by intro _; rfl) :
    PS X (.Assign [.Name y py] (.DictComp kx vx [⟨tg, iter, ifs, 0⟩] scope pos) spos) (tAsg (tDc wi g ttt ttk ttv (own.map (·.2))) (gName i)) := by
  constructor
  intro pins s σ H D I hyp
  have hyp : tDc wi g ttt ttk ttv (own.map (·.2)) σ H (fun x G => gName i x σ G D.nx) := hyp
  rw [exec_Assign_Name_used _ _ _ _ hsw]
  refine wpAny_bind (wpAny_standAt (wpAny_bind (wpAny_bind (thn (dc_core (pos' := firstIterPos [⟨tg, iter, ifs, 0⟩] pos) (use := some (assign (.Name y py) X.env)) (Qf := fun _ t => SP X pins D .next t) hc hN I hi ok hg ht hk he hs hyp fun L C t m G J q hn f => ?_) fun _ t hq => wpAny_pure (wpAny_pure hq)))))
  show wpAny _ _ (assign (.Name y py) X.env (.ref L)) _ _ _
  refine wpAny_assign_Name (store_ok2 (v := V.ref L) J hN hy (.inl hyl) rfl (fun t2 J2 ⟨a, sb, ha⟩ => ?_) (.inr hyl))
  have hne : C ≠ a := by
    rcases ha with z | z
    · rw [z]; exact f.2.1
    · exact fun e => f.2.2.2.2.1 y a z e.symm
  refine ⟨m, hn.sameBut sb hne, fun g3 sb3 => ⟨_, G, J2.turned (t' := t2.toks) (fun b o hb e => (sb3.2 b hb).trans e) f.1 f.2.1 f.2.2.2.1 f.2.2.2.2.1 f.2.2.2.2.2, q⟩⟩
theorem sw_dc {kx vx : Expr} {gs : List Comprehension} {scope : Scope} {pos py : Pos} {y : Str} {l : Nat} {env : Env} (hk : env.scope.kind = .function) (hy : env.scope.names.lookup y = some .local) (hl : (py.line == pos.line) = true)
    (ha : (scope.names.any fun (n, k) => n == y && (k == .local || k == .cell)) = false) : swapsWith (.DictComp kx vx gs scope pos) (some (.Name y py)) l env = pure true := by
  have bk : env.blockKind = .function := by unfold Env.blockKind; rw [hk]; rfl
  have ky : env.kindOf y = some .local := hy
  unfold swapsWith
  simp only [bk, ky, ha, hl, Expr.pos]
  rfl
theorem js_setDc {i : Nat} {y : Str} {py spos : Pos} (hmk : MkOk X.K cl mk) (hc : X.calm = true) (hN : X.N.Nodup) (hy : X.N[i]? = some y) (hyl : X.env.scope.names.lookup y = some .local)
    (hsw : swapsWith (.DictComp kx vx [⟨tg, iter, ifs, 0⟩] scope pos) (some (.Name y py)) spos.line X.env = pure true) (hi : JI cl W X tg iter mi) (ok : BlkOk X.N X.env.scope scope own) (hsl : ∀ i ∈ sl, i ∈ own.map (·.2))
    (hg : Blk X scope fun Y => JG cl Y tg sl mg) (ht : Blk X scope fun Y => JTs cl NoW Y ifs tt) (hk : Blk X scope fun Y => JE cl NoW Y kx tk) (he : Blk X scope fun Y => JE cl NoW Y vx tv) (hs : ∀ x, foldedSetIterable iter X.env x = pure x := by intro _; rfl) :
    JS cl W X (.Assign [.Name y py] (.DictComp kx vx [⟨tg, iter, ifs, 0⟩] scope pos) spos) (sSet i (eDc mk mi mg tt tk tv (own.map (·.2)))) := by
  refine ps_imp (ps_setDc (g := tG X.K cl sl mg) (ttt := tM X.K cl RB NoW tt) (ttk := tM X.K cl (RD X.K cl) NoW tk) (ttv := tM X.K cl (RD X.K cl) NoW tv) hc hN hy hyl hsw hi ok hg ht hk he hs) fun D σ H q => ?_
  refine dc_of hmk hsl ?_
  exact tS_bind (R1 := RD X.K cl) (k := fun τ d h1 => .nx (τ.set i (some d)) h1) q fun τ ρ1 h1 H1 d v hr1 er1 r1 p1 => p1 ρ1 H1 _ hr1 (.refl _ _ _) (er1.set i r1)
end
end L2.Mi

/-! MiDict5: comprehensions over a dict's keys, lists made as cells, sorted(d). -/
namespace L2.Mi
open PySem PySem.Spec PyProof.Rows
/-! ### a list comprehension whose list will change -/
noncomputable def lcM (g : Gd) (all : List Dv) (mg : MG) (tt : MT) (te : ME) (τ : MEnv) (ds acc : List Dv) (h : MH) : Res Dv := (lcL g all mg tt te τ ds acc h).bind fun d h1 => match d with
  | .lst xs => .ok (.obj h1.length) (h1 ++ [.lst xs])
  | _ => .stuck
noncomputable def eLcC (mi : MI) (mg : MG) (tt : MT) (te : ME) (vs : List Nat) : ME := fun τ h => (mi τ h).bind fun p h1 => lcM p.2 p.1 mg tt te (wipeD τ vs) p.1 [] h1
section
variable {X : Cx} {cl : Str → Option Addr} {W : WX} {tg iter elt kx vx : Expr} {ifs : List Expr} {scope : Scope} {own : List (Str × Nat)} {mi : MI} {mg : MG} {sl : List Nat} {tt : MT} {te tk tv : ME} {pos : Pos} {mk : List Dv → MH → Res Dv}
theorem lcC_of {vs : List Nat} (hsl : ∀ i ∈ sl, i ∈ vs) {σ : St} {H : Hp} {Q : VK} (q : tM X.K cl (RD X.K cl) W (eLcC mi mg tt te vs) σ H Q) :
    tLc (tM X.K cl (RI X.K cl) W mi) (tG X.K cl sl mg) (tM X.K cl RB NoW tt) (tM X.K cl (RD X.K cl) NoW te) vs σ H Q := by
  refine tM_bind (R1 := RI X.K cl) (f := fun τ p h1 => lcM p.2 p.1 mg tt te (wipeD τ vs) p.1 [] h1) q fun τ₀ ρ₀ h₀ H₀ p J hr0 er0 it p0 => ?_
  obtain ⟨ds, g⟩ := p
  have it : ItOk X.K cl ρ₀ h₀ H₀ ds g J := it
  have p0 : Post X.K cl (RD X.K cl) W σ ρ₀ h₀ H₀ (lcM g ds mg tt te (wipeD τ₀ vs) ds [] h₀) Q := p0
  intro D hD
  obtain ⟨hrD, eD⟩ := hr0.hideNew (o := .lst []) hD
  refine ⟨fun i m H => m = ds.length - i ∧ i ≤ ds.length ∧ ∃ ρ h accD accV, HRel X.K cl ρ h H ∧ Ext ρ₀ h₀ H₀ ρ h H ∧ D ∈ ρ.hid ∧ H D = some (.lst accV) ∧ RelDs X.K cl ρ h H accD accV ∧ Post X.K cl (RD X.K cl) W σ ρ₀ h₀ H₀ (lcM g ds mg tt te (wipeD τ₀ vs) (ds.drop i) accD h) Q,
    ⟨ds.length, by simp, Nat.zero_le _, ρ₀.hide D, h₀, [], [], hrD, eD, List.mem_cons_self, upd_same, .nil, p0⟩, ?_⟩
  rintro i m H ⟨rfl, hi, ρ, h, accD, accV, hr, e, hm, hDl, ra, p⟩
  by_cases hlt : i < ds.length
  · right
    rw [drop_cons hlt] at p
    unfold lcM lcL at p
    split at p
    · rename_i hg
      cases em : mg ds[i] (wipeD τ₀ vs) with
      | none => simp only [em] at p; exact p.elim
      | some τ1 =>
        simp only [em] at p
        refine ⟨it.go ρ h H i hr e.toExt1 hg hlt, fun H' => ∃ ρ h accD accV, HRel X.K cl ρ h H' ∧ Ext ρ₀ h₀ H₀ ρ h H' ∧ D ∈ ρ.hid ∧ H' D = some (.lst accV) ∧ RelDs X.K cl ρ h H' accD accV ∧ Post X.K cl (RD X.K cl) W σ ρ₀ h₀ H₀ (lcM g ds mg tt te (wipeD τ₀ vs) (ds.drop (i + 1)) accD h) Q,
          fun H' n => ⟨ds.length - (i + 1), by omega, rfl, hlt, n⟩, fun x H' y => ?_⟩
        obtain ⟨hr', e', rd⟩ := it.yld ρ h H i ds[i] x H' hr e.toExt1 hg (by simp [hlt]) y
        have er' : EnvR X.K cl ρ h H' (wipeD τ₀ vs) (wipe σ vs) := wipe_rel ((er0.mono e).mono e') vs
        refine ⟨wipeD τ₀ vs, ρ, h, ds[i], τ1, hr', er', rd, em, fun σ1 er1 l1 k1 => ⟨?_, ?_⟩⟩
        · rw [wipe_same (σ := wipe σ vs) (σ' := σ1) vs l1 fun i hi => k1 i fun z => hi (hsl i z)]
          exact wipe_same vs (wipe_length σ vs) fun i hi => wipe_out hi
        · refine ⟨τ1, ρ, h, hr', er1, ?_⟩
          cases et : tt τ1 h with
          | err c xs h1 => simp only [et] at p; exact p.elim
          | stuck => simp only [et] at p; exact p.elim
          | ok k h1 =>
            intro ρ1 H3 b hr1 e1 r1
            cases r1
            have hD3 : D ∈ ρ1.hid ∧ H3 D = some (.lst accV) := ⟨(e1.hid D hm).1, (e1.hid D hm).2.trans ((e'.hid D hm).2.trans hDl)⟩
            cases k with
            | false =>
              simp only [et] at p
              exact iteF ⟨ρ1, h1, accD, accV, hr1, (e.trans e').trans e1, hD3.1, hD3.2, (ra.mono e').mono e1, p⟩
            | true =>
              simp only [et] at p
              refine iteT ⟨τ1, ρ1, h1, hr1, er1.mono e1, ?_⟩
              cases ee : te τ1 h1 with
              | err c xs h2 => simp only [ee] at p; exact p.elim
              | stuck => simp only [ee] at p; exact p.elim
              | ok y h2 =>
                simp only [ee] at p
                by_cases hln : lineB (accD.length + 1) = true
                · rw [if_pos hln] at p
                  intro ρ2 H4 v hr2 e2 r2
                  have hD4 : D ∈ ρ2.hid ∧ H4 D = some (.lst accV) := ⟨(e2.hid D hD3.1).1, (e2.hid D hD3.1).2.trans hD3.2⟩
                  obtain ⟨w1, w2⟩ := hr2.hidW (o := .lst (accV ++ [v])) hD4.1
                  refine ⟨accV, hD4.2, by rw [← ra.length]; exact lineB_le hln, ρ2, h2, accD ++ [y], accV ++ [v], w1, ((((e.trans e').trans e1).trans e2).hidW hr0 hD), hD4.1, upd_same, ?_, p⟩
                  exact RelDs.mono0 w2.toExt0 ((((ra.mono e').mono e1).mono e2).append (.cons r2 .nil))
                · rw [if_neg hln] at p; exact p.elim
    · exact p.elim
  · have ei : i = ds.length := by omega
    subst ei
    left
    rw [List.drop_length] at p
    unfold lcM lcL at p
    split at p
    · rename_i hg
      refine ⟨it.stop ρ h H hr e.toExt1 hg, ?_⟩
      obtain ⟨u1, u2⟩ := hr.adopt (c := .lst accD) e hr0 hm hD ⟨accV, hDl, ra⟩
      exact p _ H (.ref D) u1 u2 (.obj Rho.push_same)
    · exact p.elim
theorem je_lcC (hc : X.calm = true) (hN : X.N.Nodup) (hi : JI cl W X tg iter mi) (ok : BlkOk X.N X.env.scope scope own) (hsl : ∀ i ∈ sl, i ∈ own.map (·.2))
    (hg : Blk X scope fun Y => JG cl Y tg sl mg) (ht : Blk X scope fun Y => JTs cl NoW Y ifs tt) (he : Blk X scope fun Y => JE cl NoW Y elt te) (hs : ∀ x, foldedSetIterable iter X.env x = pure x := by intro _; rfl) :
    JE cl W X (.ListComp elt [⟨tg, iter, ifs, 0⟩] scope pos) (eLcC mi mg tt te (own.map (·.2))) :=
  pe_imp (pe_lc hc hN hi ok hg ht he hs) fun σ H Q q => lcC_of hsl q
theorem js_setLcC {i : Nat} {y : Str} {py spos : Pos} (hc : X.calm = true) (hN : X.N.Nodup) (hy : X.N[i]? = some y) (hyl : X.env.scope.names.lookup y = some .local)
    (hsw : swapsWith (.ListComp elt [⟨tg, iter, ifs, 0⟩] scope pos) (some (.Name y py)) spos.line X.env = pure true) (hi : JI cl W X tg iter mi) (ok : BlkOk X.N X.env.scope scope own) (hsl : ∀ i ∈ sl, i ∈ own.map (·.2))
    (hg : Blk X scope fun Y => JG cl Y tg sl mg) (ht : Blk X scope fun Y => JTs cl NoW Y ifs tt) (he : Blk X scope fun Y => JE cl NoW Y elt te) (hs : ∀ x, foldedSetIterable iter X.env x = pure x := by intro _; rfl) :
    JS cl W X (.Assign [.Name y py] (.ListComp elt [⟨tg, iter, ifs, 0⟩] scope pos) spos) (sSet i (eLcC mi mg tt te (own.map (·.2)))) := by
  refine ps_imp (ps_setLc (g := tG X.K cl sl mg) (tt := tM X.K cl RB NoW tt) (te := tM X.K cl (RD X.K cl) NoW te) hc hN hy hyl hsw hi ok hg ht he hs) fun D σ H q => ?_
  refine lcC_of hsl ?_
  exact tS_bind (R1 := RD X.K cl) (k := fun τ d h1 => .nx (τ.set i (some d)) h1) q fun τ ρ1 h1 H1 d v hr1 er1 r1 p1 => p1 ρ1 H1 _ hr1 (.refl _ _ _) (er1.set i r1)
/-! ### over a dict's keys -/
theorem keyed_of {α : Type} {j : Nat} {τ : MEnv} {h : MH} {f : List Dv × Gd → MH → Res α} (ns : (iKeysV j τ h).bind f ≠ .stuck) : ∃ ps, τ[j]? = some (some (.dct ps)) := by
  unfold iKeysV at ns
  split at ns
  · exact ⟨_, by assumption⟩
  · exact absurd rfl ns
theorem je_dcK {j : Nat} {x : Str} {p : Pos} (hmk : MkOk X.K cl mk) (hc : X.calm = true) (hN : X.N.Nodup) (hj : X.N[j]? = some x) (hv : Vis X.env.scope x) (ok : BlkOk X.N X.env.scope scope own) (hsl : ∀ i ∈ sl, i ∈ own.map (·.2))
    (hg : Blk X scope fun Y => JG cl Y tg sl mg) (ht : Blk X scope fun Y => JTs cl NoW Y ifs tt) (hk : Blk X scope fun Y => JE cl NoW Y kx tk) (he : Blk X scope fun Y => JE cl NoW Y vx tv)
    (hd : (x == ("__debug__" : Str)) = false := by decide) (hcd : (x == ("__classdict__" : Str)) = false := by decide) (hs : ∀ y, foldedSetIterable (.Name x p) X.env y = pure y := by intro _; rfl) :
    JE cl W X (.DictComp kx vx [⟨tg, .Name x p, ifs, 0⟩] scope pos) (eDc mk (iKeysV j) mg tt tk tv (own.map (·.2))) := by
  have base := pe_dc (pos := pos) (g := tG X.K cl sl mg) (tt := tM X.K cl RB NoW tt) (tk := tM X.K cl (RD X.K cl) NoW tk) (tv := tM X.K cl (RD X.K cl) NoW tv) hc hN (pi_keys (tg := tg) (pe_var (pos := p) hj hv hd hcd)) ok hg ht hk he hs
  refine pe_imp (pe_or (pe_lock base) base) fun σ H Q q => ?_
  obtain ⟨τ, ρ, h, hr, er, pq⟩ := q
  obtain ⟨ps, et⟩ := keyed_of (f := fun p h1 => dcL mk p.2 p.1 mg tt tk tv (wipeD τ (own.map (·.2))) p.1 [] h1) (j := j) (τ := τ) (h := h) fun z => by
    have pq' : Post X.K cl (RD X.K cl) W σ ρ h H ((iKeysV j τ h).bind fun p h1 => dcL mk p.2 p.1 mg tt tk tv (wipeD τ (own.map (·.2))) p.1 [] h1) Q := pq
    rw [z] at pq'; exact pq'
  obtain ⟨v, ev, r⟩ := er.2 j _ et
  obtain ⟨a, u, rfl, rd, n, mu, sf, nf, kk⟩ := dct_rel r
  have kk' : (∃ kvs, u = .dK kvs) ∨ ∃ kvs, u = .dT kvs := kk.elim (fun ⟨k, e, _⟩ => .inl ⟨k, e⟩) fun ⟨k, e, _⟩ => .inr ⟨k, e⟩
  have at_ : ∀ {b}, σ[j]? = some (some (V.ref b)) → b = a := fun {b} e => by rw [ev] at e; cases e; rfl
  rcases rd with rd | ⟨o, rd⟩
  · left
    refine ⟨a, u, rd, mu, fun od => ?_⟩
    obtain ⟨l1, l2⟩ := hr.lock rd n (sf od) nf
    exact ikeys_of (dc_of hmk hsl ⟨τ, ρ, h, l1, er.mono l2, Post.lock hr rd n (sf od) nf pq⟩) fun b e => by rw [at_ e]; exact ⟨od, u, upd_same, kk'⟩
  · right
    exact ikeys_of (dc_of hmk hsl ⟨τ, ρ, h, hr, er, pq⟩) fun b e => by rw [at_ e]; exact ⟨o, u, rd, kk'⟩
theorem js_setDcK {i j : Nat} {x y : Str} {p py spos : Pos} (hmk : MkOk X.K cl mk) (hc : X.calm = true) (hN : X.N.Nodup) (hy : X.N[i]? = some y) (hyl : X.env.scope.names.lookup y = some .local)
    (hsw : swapsWith (.DictComp kx vx [⟨tg, .Name x p, ifs, 0⟩] scope pos) (some (.Name y py)) spos.line X.env = pure true) (hj : X.N[j]? = some x) (hv : Vis X.env.scope x) (ok : BlkOk X.N X.env.scope scope own) (hsl : ∀ i ∈ sl, i ∈ own.map (·.2))
    (hg : Blk X scope fun Y => JG cl Y tg sl mg) (ht : Blk X scope fun Y => JTs cl NoW Y ifs tt) (hk : Blk X scope fun Y => JE cl NoW Y kx tk) (he : Blk X scope fun Y => JE cl NoW Y vx tv)
    (hd : (x == ("__debug__" : Str)) = false := by decide) (hcd : (x == ("__classdict__" : Str)) = false := by decide) (hs : ∀ y, foldedSetIterable (.Name x p) X.env y = pure y := by intro _; rfl) :
    JS cl W X (.Assign [.Name y py] (.DictComp kx vx [⟨tg, .Name x p, ifs, 0⟩] scope pos) spos) (sSet i (eDc mk (iKeysV j) mg tt tk tv (own.map (·.2)))) := by
  have base := ps_setDc (pos := pos) (py := py) (spos := spos) (g := tG X.K cl sl mg) (ttt := tM X.K cl RB NoW tt) (ttk := tM X.K cl (RD X.K cl) NoW tk) (ttv := tM X.K cl (RD X.K cl) NoW tv) hc hN hy hyl hsw (pi_keys (tg := tg) (pe_var (pos := p) hj hv hd hcd)) ok hg ht hk he hs
  refine ps_imp (ps_or (ps_lock base) base) fun D σ H q => ?_
  obtain ⟨τ, ρ, h, hr, er, pq⟩ := q
  obtain ⟨ps, et⟩ := keyed_of (f := fun p h1 => dcL mk p.2 p.1 mg tt tk tv (wipeD τ (own.map (·.2))) p.1 [] h1) (j := j) (τ := τ) (h := h) fun z => by
    have pq' : PostS X.K cl W D ρ h H (((iKeysV j τ h).bind fun p h1 => dcL mk p.2 p.1 mg tt tk tv (wipeD τ (own.map (·.2))) p.1 [] h1).toS τ fun d h1 => .nx (τ.set i (some d)) h1) := pq
    rw [z] at pq'; exact pq'
  obtain ⟨v, ev, r⟩ := er.2 j _ et
  obtain ⟨a, u, rfl, rd, n, mu, sf, nf, kk⟩ := dct_rel r
  have kk' : (∃ kvs, u = .dK kvs) ∨ ∃ kvs, u = .dT kvs := kk.elim (fun ⟨k, e, _⟩ => .inl ⟨k, e⟩) fun ⟨k, e, _⟩ => .inr ⟨k, e⟩
  have at_ : ∀ {b}, σ[j]? = some (some (V.ref b)) → b = a := fun {b} e => by rw [ev] at e; cases e; rfl
  have main : ∀ {D : Ends} {H : Hp}, HRel X.K cl ρ h H → EnvR X.K cl ρ h H τ σ → PostS X.K cl W D ρ h H (sSet i (eDc mk (iKeysV j) mg tt tk tv (own.map (·.2))) τ h) → (∃ o, H a = some (.frz o u)) →
      tAsg (tDc (iKeys (fun σ H Q => ∃ v, σ[j]? = some (some v) ∧ Q v H)) (tG X.K cl sl mg) (tM X.K cl RB NoW tt) (tM X.K cl (RD X.K cl) NoW tk) (tM X.K cl (RD X.K cl) NoW tv) (own.map (·.2))) (gName i) D σ H := fun {D H} hr er pq ⟨o, eo⟩ => by
    refine ikeys_of (dc_of hmk hsl (W := W) (mi := iKeysV j) (Q := fun x G => gName i x σ G D.nx) ?_) fun b e => by rw [at_ e]; exact ⟨o, u, eo, kk'⟩
    exact tS_bind (R1 := RD X.K cl) (m := eDc mk (iKeysV j) mg tt tk tv (own.map (·.2))) (k := fun τ d h1 => .nx (τ.set i (some d)) h1) ⟨τ, ρ, h, hr, er, pq⟩ fun τ ρ1 h1 H1 d v hr1 er1 r1 p1 => p1 ρ1 H1 _ hr1 (.refl _ _ _) (er1.set i r1)
  rcases rd with rd | ⟨o, rd⟩
  · left
    refine ⟨a, u, rd, mu, fun od => ?_⟩
    obtain ⟨l1, l2⟩ := hr.lock rd n (sf od) nf
    exact main l1 (er.mono l2) (PostS.lock hr rd n (sf od) nf pq) ⟨od, upd_same⟩
  · right
    exact main hr er pq ⟨o, rd⟩
theorem je_lcK {j : Nat} {x : Str} {p : Pos} (hc : X.calm = true) (hN : X.N.Nodup) (hj : X.N[j]? = some x) (hv : Vis X.env.scope x) (ok : BlkOk X.N X.env.scope scope own) (hsl : ∀ i ∈ sl, i ∈ own.map (·.2))
    (hg : Blk X scope fun Y => JG cl Y tg sl mg) (ht : Blk X scope fun Y => JTs cl NoW Y ifs tt) (he : Blk X scope fun Y => JE cl NoW Y elt te)
    (hd : (x == ("__debug__" : Str)) = false := by decide) (hcd : (x == ("__classdict__" : Str)) = false := by decide) (hs : ∀ y, foldedSetIterable (.Name x p) X.env y = pure y := by intro _; rfl) :
    JE cl W X (.ListComp elt [⟨tg, .Name x p, ifs, 0⟩] scope pos) (eLc (iKeysV j) mg tt te (own.map (·.2))) := by
  have base := pe_lc (pos := pos) (g := tG X.K cl sl mg) (tt := tM X.K cl RB NoW tt) (te := tM X.K cl (RD X.K cl) NoW te) hc hN (pi_keys (tg := tg) (pe_var (pos := p) hj hv hd hcd)) ok hg ht he hs
  refine pe_imp (pe_or (pe_lock base) base) fun σ H Q q => ?_
  obtain ⟨τ, ρ, h, hr, er, pq⟩ := q
  obtain ⟨ps, et⟩ := keyed_of (f := fun p h1 => lcL p.2 p.1 mg tt te (wipeD τ (own.map (·.2))) p.1 [] h1) (j := j) (τ := τ) (h := h) fun z => by
    have pq' : Post X.K cl (RD X.K cl) W σ ρ h H ((iKeysV j τ h).bind fun p h1 => lcL p.2 p.1 mg tt te (wipeD τ (own.map (·.2))) p.1 [] h1) Q := pq
    rw [z] at pq'; exact pq'
  obtain ⟨v, ev, r⟩ := er.2 j _ et
  obtain ⟨a, u, rfl, rd, n, mu, sf, nf, kk⟩ := dct_rel r
  have kk' : (∃ kvs, u = .dK kvs) ∨ ∃ kvs, u = .dT kvs := kk.elim (fun ⟨k, e, _⟩ => .inl ⟨k, e⟩) fun ⟨k, e, _⟩ => .inr ⟨k, e⟩
  have at_ : ∀ {b}, σ[j]? = some (some (V.ref b)) → b = a := fun {b} e => by rw [ev] at e; cases e; rfl
  rcases rd with rd | ⟨o, rd⟩
  · left
    refine ⟨a, u, rd, mu, fun od => ?_⟩
    obtain ⟨l1, l2⟩ := hr.lock rd n (sf od) nf
    exact ikeys_of (lc_of hsl ⟨τ, ρ, h, l1, er.mono l2, Post.lock hr rd n (sf od) nf pq⟩) fun b e => by rw [at_ e]; exact ⟨od, u, upd_same, kk'⟩
  · right
    exact ikeys_of (lc_of hsl ⟨τ, ρ, h, hr, er, pq⟩) fun b e => by rw [at_ e]; exact ⟨o, u, rd, kk'⟩
end
/-! ### sorted(d), whole numbers as keys -/
def dK : List Dv → Bool
  | .non :: _ => false
  | _ => true
def gSortD (d : Dv) (h : MH) : Res Dv := match dctOf h d with
  | some ps => (match intsOf (dkeys ps) with
    | some ns => if (decide (ns.length < 64) && dK ps) = true then .ok (.lst ((sortI ns).map .int)) h else .stuck
    | none => .stuck)
  | none => .stuck
def fSortD : List Dv → MH → Res Dv
  | [d], h => gSortD d h
  | _, _ => .stuck
section
variable {X : Cx} {cl : Str → Option Addr}
theorem keyKs_ints : ∀ {ks : List Dv} {l : List Key} {ns : List Int}, keyKs ks = some l → intsOf ks = some ns → l = ns.map Sum.inl
  | [], _, _, e, e' => by cases e; cases e'; rfl
  | .int i :: ks, l, ns, e, e' => by
    unfold intsOf at e'
    cases e1 : intsOf ks with
    | none => rw [e1] at e'; cases e'
    | some ms =>
      rw [e1] at e'
      cases e'
      have e : (match keyKs ks with
        | some l => some (Sum.inl i :: l)
        | none => none) = some l := by
        have : keyKs (.int i :: ks) = (match keyKs ks with
          | some l => some (Sum.inl i :: l)
          | none => none) := by
          show (match some (Sum.inl i : Key), keyKs ks with
            | some k, some ks => some (k :: ks)
            | _, _ => none) = _
          cases keyKs ks <;> rfl
        rw [← this]; exact e
      cases e2 : keyKs ks with
      | none => rw [e2] at e; cases e
      | some l1 =>
        rw [e2] at e
        cases e
        rw [List.map_cons, keyKs_ints e2 e1]
  | .non :: _, _, _, _, e' => by cases e'
  | .bl _ :: _, _, _, _, e' => by cases e'
  | .str _ :: _, _, _, _, e' => by cases e'
  | .lst _ :: _, _, _, _, e' => by cases e'
  | .kls _ :: _, _, _, _, e' => by cases e'
  | .tup _ :: _, _, _, _, e' => by cases e'
  | .dct _ :: _, _, _, _, e' => by cases e'
  | .obj _ :: _, _, _, _, e' => by cases e'
  | .exc _ _ :: _, _, _, _, e' => by cases e'
theorem keyT_ints : ∀ {ks : List Dv} {kvs : List (List Key × V)} {ns : List Int}, ks.map keyT = kvs.map (fun p => some p.1) → intsOf ks = some ns → ks = [] ∧ ns = [] ∧ kvs = []
  | [], kvs, _, e, e' => by
    cases e'
    cases kvs with
    | nil => exact ⟨rfl, rfl, rfl⟩
    | cons _ _ => cases e
  | d :: ks, kvs, ns, e, e' => by
    exfalso
    cases d <;> first | cases e' | skip
    cases kvs with
    | nil => cases e
    | cons p kvs =>
      rw [List.map_cons, List.map_cons] at e
      injection e with e1 _
      cases e1
/-- a dict's keys, wherever it stands -/
theorem dctOf_keys {K : PySem.W.Frag} {ρ : Rho} {h : MH} {H : Hp} (hr : HRel K cl ρ h H) {d : Dv} {v : V} {ps : List Dv} (rd : RelD K cl ρ h H d v) (e : dctOf h d = some ps) : ∃ a, v = .ref a ∧
    (dK ps = true → ∃ kvs, Rd H a (.dK kvs) ∧ keyKs (dkeys ps) = some (kvs.map (·.1))) := by
  have val : ∀ {v : V}, RelD K cl ρ h H (.dct ps) v → ∃ a, v = .ref a ∧ (dK ps = true → ∃ kvs, Rd H a (.dK kvs) ∧ keyKs (dkeys ps) = some (kvs.map (·.1))) := fun {v} r => by
    generalize hd : Dv.dct ps = d at r
    cases r with
    | @dctK a ks vs kvs q n kk rs =>
      cases hd
      refine ⟨a, rfl, fun _ => ⟨kvs, q, ?_⟩⟩
      rw [dkeys_pairs (by rw [keyKs_len kk, rs.length, List.length_map, List.length_map])]
      exact kk
    | @dctT a ks vs kvs q n kk rs => cases hd; exact ⟨a, rfl, fun z => (by cases z)⟩
    | _ => cases hd
  cases d with
  | dct qs => cases e; exact val rd
  | obj i =>
    have e : (match h[i]? with
      | some (.dct ps) => some ps
      | _ => none) = some ps := e
    cases hi : h[i]? with
    | none => rw [hi] at e; cases e
    | some c =>
      rw [hi] at e
      cases c with
      | dct ds =>
        cases e
        cases rd with
        | @obj _ b q =>
          obtain ⟨a, ha, ks, vs, cr⟩ := hr.cells i _ hi
          rw [q] at ha; cases ha
          refine ⟨b, rfl, ?_⟩
          rcases cr with ⟨rfl, kvs, e1, e2, rs⟩ | ⟨rfl, kvs, e1, e2, rs⟩
          · refine fun _ => ⟨kvs, .inl e1, ?_⟩
            rw [dkeys_pairs (by rw [keyKs_len e2, rs.length, List.length_map, List.length_map])]
            exact e2
          · exact fun z => (by cases z)
      | _ => cases e
  | _ => cases e
theorem call_sortD (hc : X.calm = true) : CallM X cl (.builtin "sorted") fSortD := by
  refine ⟨⟨_, call_sortedDI hc, fun σ ρ h H ds xs Q hr rs p => ?_⟩, fun ds h => ?_⟩
  · unfold fSortD at p
    split at p
    · rename_i d
      obtain ⟨v, rfl, rd⟩ := rs.one
      unfold gSortD at p
      split at p
      · rename_i ps ep
        split at p
        · rename_i ns en
          split at p
          · rename_i hl
            rw [Bool.and_eq_true] at hl
            obtain ⟨hl, hk⟩ := hl
            have hl := of_decide_eq_true hl
            obtain ⟨a, rfl, kk⟩ := dctOf_keys hr rd ep
            rcases kk hk with ⟨kvs, rdk, k⟩
            · refine ⟨a, kvs, ns, rfl, rdk, keyKs_ints k en, hl, fun ms q pm rs' hn => ?_⟩
              rw [sortI_one pm rs']
              exact new_lst hr (RelDs.ints _) p q hn
          · exact p.elim
        · exact p.elim
      · exact p.elim
    · exact p.elim
  · unfold fSortD
    split
    · unfold gSortD
      split
      · split
        · split <;> trivial
        · trivial
      · trivial
    · trivial
end
end L2.Mi

/-! MiRaise: NoHouse and its field; try with several clauses. -/
namespace L2.Mi
open PySem PySem.Spec PyProof.Rows
/-! ### NoHouse(x) -/
/-- its __init__ -/
def spNh (K : PySem.W.Frag) : Sp := fun vs H Q _ => ∃ (a C : Addr) (v : V), vs = [.ref a, v] ∧ OexC K C ∧ PySem.W.findIn K (.ref C) "house" = some none ∧ H a = some (exo a C none) ∧
  ∀ dx, H dx = none → dx ≠ a → Q .non (upd (upd H dx (exd dx [(("house" : Str), v)])) a (exo a C (some dx)))
theorem nh_ok {P : Program} {w : World} {K : PySem.W.Frag} {mg : Str → Option Value} {base : Heap} {params : Arguments} {scope : Scope} {f : Addr} {fd : FuncData} {q1 q2 q3 q4 : Pos}
    (F : FunD K "__init__" "NoHouse.__init__" params [.Assign [.Attribute (.Name "self" q1) "house" q2] (.Name "house" q3) q4] scope [] [] f fd) (S : FnScope ["self", "house"] ["self", "house"] scope) (ss : scope.names.lookup ("self" : Str) = some NameKind.local) (sh : scope.names.lookup ("house" : Str) = some NameKind.local) :
    FnOk P w K mg base (L2.CX P w) 1 f fd ["self", "house"] (spNh K) := by
  refine F.ok S (fun vs H Q E q => ?_) fun cdv A outer s H vs Q E hr q => ⟨_, pss_one (ps_ost (pe_var (i := 0) rfl (.inl ss)) (pe_var (i := 1) rfl (.inl sh))), ?_⟩
  · obtain ⟨a, C, v, rfl, _⟩ := q
    rfl
  · obtain ⟨a, C, v, rfl, T, hno, ha, k⟩ := q
    exact ⟨v, rfl, .ref a, rfl, a, C, rfl, T, hno, .inl ⟨ha, fun dx n ne => k dx n ne⟩⟩
structure NhAt (P : Program) (w : World) (K : PySem.W.Frag) (mg : Str → Option Value) (base : Heap) (cl : Str → Option Addr) : Prop where
  ex : ∃ C fI fd, cl "NoHouse" = some C ∧ mg "NoHouse" = some (.ref C) ∧ OexC K C ∧ PySem.W.findIn K (.ref C) "__init__" = some (some (.ref fI)) ∧ PySem.W.typeIn K (.ref fI) = some (.type "function") ∧ PySem.W.findIn K (.ref C) "house" = some none ∧
    FnOk P w K mg base (L2.CX P w) 1 fI fd ["self", "house"] (spNh K) ∧ Binds K fd ["self", "house"] []
def sRaise1 (c : Str) (m : ME) : MS := fun τ h => (m τ h).toS τ fun d h1 => .err c [d] τ h1
section
variable {X : Cx} {cl : Str → Option Addr} {W : WX} {e : Expr} {m : ME} {p pos pos2 : Pos}
theorem passes_no (tk : Takes X W) : Passes (L2.CX X.prog X.w) X (fun _ _ _ => False) := passes_call tk fun _ _ _ _ z => z.elim
theorem js_raiseH (T : NhAt X.prog X.w X.K X.mg X.base cl) (hc : X.calm = true) (hr : Room 2 X.A) (tk : Takes X W) (he : JE cl W X e m) (hg : Gl X "NoHouse") (hs : starEach (e :: []) X.env = (false, eval e X.env) :: starEach [] X.env := by rfl) (hpl : (backTo pos (starEach [] X.env)).any (·.1) = false := by rfl) :
    JS cl W X (.Raise (some (.Call (.Name "NoHouse" p) [e] [] pos)) none pos2) (sRaise1 "NoHouse" m) := by
  obtain ⟨C, fI, fd, h1, h2, h3, h4, h5, h6, h7, h8⟩ := T.ex
  refine ps_imp (ps_raise hc tk (pmk_oex (k := 1) h3 h4 h5 h7 hr h8 .nil (passes_no tk) hg h2 (pa_cons he pa_nil hs) (by decide) hs hpl)) fun D σ H q => ?_
  refine tS_bind (R1 := RD X.K cl) (k := fun τ d h1 => .err "NoHouse" [d] τ h1) q fun τ ρ1 g1 H1 d v hr1 er1 r1 p1 => ?_
  refine ⟨by show 1 ≤ 1000; decide, fun a na => ?_⟩
  refine ⟨a, C, v, rfl, h3, h6, upd_same, fun dx ndx ne => ⟨rfl, dx, [(("house" : Str), v)], upd_same, ?_, ?_, ?_⟩⟩
  · rw [upd_ne ne]; exact upd_same
  · rw [upd_ne ne] at ndx; exact ndx
  · have hdx : H1 dx = none := by rw [upd_ne ne] at ndx; exact ndx
    have eq : upd (del (upd (upd (upd H1 a (exo a C none)) dx (exd dx [(("house" : Str), v)])) a (exo a C (some dx))) a) dx (.xd [(("house" : Str), v)]) = upd H1 dx (.xd [(("house" : Str), v)]) := by
      funext b
      by_cases hb : b = dx
      · subst hb; rw [upd_same, upd_same]
      · rw [upd_ne hb, upd_ne hb]
        by_cases ha : b = a
        · subst ha; rw [del_same, na]
        · rw [del_ne ha, upd_ne ha, upd_ne hb, upd_ne ha]
    rw [eq]
    obtain ⟨w1, w2, w3⟩ := hr1.newV (o := .xd [(("house" : Str), v)]) hdx
    exact p1 ρ1 _ σ (.ref C) (some dx) w1 w2 (er1.mono w2) ⟨C, h1, rfl, .inr ⟨d, v, dx, rfl, rfl, upd_same, w3, r1.mono w2⟩⟩
end
/-! ### try with clauses that keep the exception -/
inductive Clauses (X : Cx) (n : Str) : List ExceptHandler → List (Value × TS) → Prop
  | nil : Clauses X n [] []
  | cons {x : Str} {c : Value} {ts : TS} {st : Stmt} {su : List Stmt} {np pos' : Pos} {hds : List ExceptHandler} {l : List (Value × TS)} (hc : Names X x c) (hsu : ∀ (a : Addr) (pn : List (Addr × Obj)), PSs (X.suite a pn) (st :: su) ts) (r : Clauses X n hds l) :
      Clauses X n (.ExceptHandler (some (.Name x np)) (some n) (st :: su) pos' :: hds) ((c, ts) :: l)
def wTrs (K : PySem.W.Frag) (i : Nat) (Wout : WX) (D : Ends) : List (Value × TS) → WX
  | [] => Wout
  | (c, ts) :: r => fun cls d σ H => ∃ b, PySem.W.exmOne K cls c = some b ∧
      (b = true → ∃ Ca, cls = .ref Ca ∧ ∀ a, H a = none → ts { nx := fun τ G => D.nx (τ.set i none) G, rt := D.rt, bk := fun τ G => D.bk (τ.set i none) G, ct := fun τ G => D.ct (τ.set i none) G } (σ.set i (some (.ref a))) (upd H a (.ext (ExcP a Ca d)))) ∧
      (b = false → wTrs K i Wout D r cls d σ H)
section
variable {X : Cx} {n : Str} {i : Nat} {body : List Stmt} {h₀ : ExceptHandler} {hds : List ExceptHandler} {l : List (Value × TS)} {pos : Pos} {tb : WX → TS} {Wout : WX}
theorem ps_tryTs (hs : X.stack = X.env :: X.outer) (hf : X.env.frame = some X.env.locals) (hex : X.ex = []) (hN : X.N.Nodup) (hi : X.N[i]? = some n) (hln : X.env.kindOf n = some .local) (tk : Takes X Wout)
    (hb : ∀ (W : WX) (pn : List (Addr × Obj)) (xe : Value → Shared → Prop), Takes (X.tr pn xe) W → PassesOwn (model X.prog X.w) X.A X.env xe → PSs (X.tr pn xe) body (tb W)) (hh : Clauses X n (h₀ :: hds) l) :
    PS X (.Try body (h₀ :: hds) [] [] pos) (fun D σ H => tb (wTrs X.K i Wout D l) D σ H) := by
  constructor
  intro pins s σ H D I hyp
  have okX := I.ok
  have frm : X.A.frames = some (X.env :: X.outer) := okX.frames.trans (congrArg some hs)
  refine wpAny_Try_except (wpAny_mono ((hb (wTrs X.K i Wout D l) (X.pn ++ pins) (fun v t1 => wpAny (model X.prog X.w) X.A (noteFrame v X.env) (fun _ t2 => wpAny (model X.prog X.w) X.A (setFlight v none) (fun _ t3 =>
    wpAny (model X.prog X.w) X.A (handleBy v X.env (h₀ :: hds)) (SP X pins D) X.xe t3) X.xe t2) X.xe t1) (fun u t0 air => ?_) PassesOwn.looking).run [] s σ H D (I.toTry _) hyp) (fun fl t1 fin => ?_) fun _ _ z => z)
  · obtain ⟨a, B, sI, pins', σ1, H1, cls, d, rfl, J0, nb, up0, sky0, na, os, ag, wish⟩ := air
    have J1 : Inv X pins σ1 H1 sI := J0.ofTry okX
    have sky1 : Sky B (X.env :: X.outer) a (Zc cls d) X.env.locals t0.heap := hs ▸ sky0
    show wpAny (model X.prog X.w) X.A (noteFrame (.ref a) X.env) _ _ _
    refine Sky.land Zc.steady frm hf sky1 fun g fly upg => ?_
    have J2 : Inv X pins σ1 H1 { t0 with heap := g } := J1.landed nb fly.1 (up0.trans upg) os ag
    obtain ⟨oa, va, ga, za, da⟩ := fly.there
    have nst : a ∉ frs (X.env :: X.outer) := fun hm => by
      obtain ⟨_, o1, q1, q2⟩ := fly.2.2.1.mem hm
      rw [ga] at q1
      cases q1
      exact q2 _ da
    have neL : a ≠ X.env.locals := fun z => nst (List.mem_filterMap.mpr ⟨X.env, List.mem_cons_self, hf.trans (congrArg some z.symm)⟩)
    have neF : a ∉ X.fs := fun hm => by
      obtain ⟨v, hv, q⟩ := List.mem_filterMap.mp hm
      exact nst (List.mem_filterMap.mpr ⟨v, List.mem_cons_of_mem _ hv, q⟩)
    have S1 := J2.suite ga da na neL neF
    have go : ∀ {hd2 : List ExceptHandler} {l2 : List (Value × TS)}, Clauses X n hd2 l2 → wTrs X.K i Wout D l2 cls d σ1 H1 → wpAny (model X.prog X.w) X.A (handleBy (.ref a) X.env hd2) (SP X pins D) X.xe { t0 with heap := g } := by
      intro hd2 l2 hk
      induction hk with
      | nil =>
        intro w
        refine wpAny_handleBy_nil ?_
        obtain ⟨_, _, _, oe, vs, T, oT, ts', he, hz, hd, h1, _⟩ := id fly
        unfold PySem.passOn
        refine wpAny_bind (wpAny_field he hd h1 ?_)
        rw [if_neg (show ¬ ((Value.ref T == Value.none) = true) by simp)]
        have on : wpAny (model X.prog X.w) X.A (setFlight (.ref a) X.env.frame) (fun _ t4 => wpAny (model X.prog X.w) X.A (throw (.ref a) : Sem Flow) (SP X pins D) X.xe t4) X.xe { t0 with heap := g } := by
          rw [hf]
          exact HandSPX.setFlight_upZ fly fun g4 hh4 up4 => wpAny_throw (tk _ _ ⟨a, B, sI, pins, σ1, H1, cls, d, rfl, J1, nb, (up0.trans upg).trans up4, .inr (.inr (hs.symm ▸ hh4)), na, os, ag, w⟩)
        first
          | exact wpAny_bind (wpAny_pure (wpAny_bind on))
          | exact wpAny_bind on
      | @cons x c ts st su np pos' hd3 l3 hc hsu r ih =>
        intro w
        obtain ⟨b, hb1, hyes, hno⟩ := w
        refine wpAny_handleBy_cons (codeAny_handlers_test ?_) (fun q => nomatch q)
        have lt : PySem.W.Looks (model X.prog X.w) g (typeOf (.ref a)) cls := fun _ _ _ _ k q => wpAny_typeOf_ref (k _ _ ga) (za.1.symm ▸ q)
        have lm := PySem.W.exm_one (M := model X.prog X.w) J2.kIn lt hb1
        have ask : ∀ {Q : Value → Shared → Prop} {E : Value → Shared → Prop}, Q c { t0 with heap := g } → wpAny (model X.prog X.w) (X.A.mark (some (.ref a))) (eval (.Name x np) X.env) Q E { t0 with heap := g } := fun q => by
          rcases hc with ⟨hg, hdbg, hm | ⟨hm, hv, hnn⟩⟩
          · exact ld_glob (X := X.suite a ((a, oa) :: (X.pn ++ pins))) S1 hg hm q hdbg
          · exact ld_blt (X := X.suite a ((a, oa) :: (X.pn ++ pins))) S1 hg hm hv q hnn hdbg
        refine ask (lm.here ?_)
        cases b with
        | false =>
          show wpAny _ X.A (handleBy (.ref a) X.env hd3) _ _ _
          exact ih (hno rfl)
        | true =>
          obtain ⟨Ca, rfl, gg⟩ := hyes rfl
          refine codeAny_handlers_suite_as (HandSPX.lands_againZ fly fun g4 fly4 up4 => ?_)
          have J4 : Inv X pins σ1 H1 { t0 with heap := g4 } := J1.landed nb fly4.1 ((up0.trans upg).trans up4) os ag
          obtain ⟨o4, v4, q4, z4, d4⟩ := fly4.there
          have n0 : X.s_0.heap.get? a = none := by
            cases e0 : X.s_0.heap.get? a with
            | none => rfl
            | some o0 =>
              obtain ⟨o1, e1⟩ := J1.base.there a o0 e0 (by rw [hex]; exact fun z => nomatch z)
              have e2 := nb a o1 e1 (hs.symm ▸ nst)
              rw [fly.2.1] at e2
              cases e2
          have K4 : Inv X pins σ1 (upd H1 a (.ext (ExcP a Ca d))) { t0 with heap := g4 } := by
            refine Inv.seen J4 n0 na (Ne.symm neL) (fun y cc e => ?_) (fun p hp => ?_) (excP_ok q4 z4 d4)
            · rintro rfl
              obtain ⟨v, oc, hoc, hdc⟩ := J4.cell y cc e
              rw [show g4.get? cc = some o4 from q4] at hoc
              cases hoc
              rw [d4] at hdc
              cases hdc
            · intro z
              obtain ⟨p1, p2, p3, p4, p5⟩ := J1.pin p hp
              rw [z] at p1 p3 p4
              have e2 := nb a p.2 p1 (hs.symm ▸ nst)
              rw [fly.2.1] at e2
              cases e2
          have K5 : Inv (X.suite a (X.pn ++ pins)) [] σ1 (upd H1 a (.ext (ExcP a Ca d))) { t0 with heap := g4 } :=
            ⟨okX.suite _ _, K4.os, K4.bare, K4.base, K4.loc, K4.cell, K4.free, K4.freeC, fun p hp => K4.pin p (by rw [List.append_nil] at hp; exact hp), K4.hok, K4.len⟩
          refine store_ok (X := X.suite a (X.pn ++ pins)) (v := .ref a) K5 hN hi (.inl hln) rfl (fun t5 K6 => ?_) (.inr hln)
          refine wpAny_mono ((hsu a (X.pn ++ pins)).run [] t5 _ _ _ K6 (gg a na)) (fun fl t6 fin => ?_) fun _ _ z => z.elim
          have off : ∀ {σ7 : St} {H7 : Hp} {Q : Shared → Prop}, Inv (X.suite a (X.pn ++ pins)) [] σ7 H7 t6 → (∀ t7, Inv X pins (σ7.set i none) H7 t7 → Q t7) →
              wpAny (model X.prog X.w) X.A (do bindName X.env n .none; unbindBehindTheSuite X.env n pos') (fun _ t7 => Q t7) X.xe t6 := fun K q =>
            gone_ok (X := X) (pins := pins) ⟨okX, K.os, K.bare, K.base, K.loc, K.cell, K.free, K.freeC, fun p hp => K.pin p (by rw [List.append_nil]; exact hp), K.hok, K.len⟩ hN hi hln q
          cases fl with
          | next => obtain ⟨_, _, K7, q7⟩ := fin; exact off K7 fun _ J7 => ⟨_, _, J7, q7⟩
          | brk => obtain ⟨_, _, K7, q7⟩ := fin; exact off K7 fun _ J7 => ⟨_, _, J7, q7⟩
          | cont => obtain ⟨_, _, K7, q7⟩ := fin; exact off K7 fun _ J7 => ⟨_, _, J7, q7⟩
          | ret u => obtain ⟨_, _, _, K7, r7, q7⟩ := fin; exact off K7 fun _ J7 => ⟨_, _, _, J7, r7, q7⟩
    exact go hh wish
  · cases fl with
    | next => obtain ⟨_, _, K1, q⟩ := fin; exact wpAny_execs_nil ⟨_, _, K1.ofTry okX, q⟩
    | brk => obtain ⟨_, _, K1, q⟩ := fin; exact ⟨_, _, K1.ofTry okX, q⟩
    | cont => obtain ⟨_, _, K1, q⟩ := fin; exact ⟨_, _, K1.ofTry okX, q⟩
    | ret u => obtain ⟨_, _, _, K1, r, q⟩ := fin; exact ⟨_, _, _, K1.ofTry okX, r, q⟩
end
/-- a clause of the mirror: whom it takes, its suite -/
def sCatch (i : Nat) (c : Str) (xs : List Dv) (τ1 : MEnv) (h1 : MH) : List ((Str → Bool) × MS) → RS
  | [] => .stuck
  | (p, ms) :: r => if isE EXCS c = true then (if p c = true then (match ms (τ1.set i (some (.exc c xs))) h1 with
      | .nx τ2 h2 => .nx (τ2.set i none) h2
      | .bk τ2 h2 => .bk (τ2.set i none) h2
      | .ct τ2 h2 => .ct (τ2.set i none) h2
      | .rt d h2 => .rt d h2
      | _ => .stuck) else sCatch i c xs τ1 h1 r) else .stuck
def sTrys (m : MS) (i : Nat) (cs : List ((Str → Bool) × MS)) : MS := fun τ h => match m τ h with
  | .err c xs τ1 h1 => sCatch i c xs τ1 h1 cs
  | r => r
/-- what a clause's class says of all errors of the program -/
structure HdB (K : PySem.W.Frag) (cl : Str → Option Addr) (u : Value) (p : Str → Bool) : Prop where
  ex : ∀ c Ca, isE EXCS c = true → cl c = some Ca → PySem.W.exmOne K (.ref Ca) u = some (p c)
inductive JCs (cl : Str → Option Addr) (X : Cx) (n : Str) : List ExceptHandler → List ((Str → Bool) × MS) → Prop
  | nil : JCs cl X n [] []
  | cons {x : Str} {c : Value} {p : Str → Bool} {ms : MS} {st : Stmt} {su : List Stmt} {np pos' : Pos} {hds : List ExceptHandler} {l : List ((Str → Bool) × MS)} (hc : Names X x c) (hd : HdB X.K cl c p) (hsu : ∀ (a : Addr) (pn : List (Addr × Obj)), JSs cl NoW (X.suite a pn) (st :: su) ms)
      (r : JCs cl X n hds l) : JCs cl X n (.ExceptHandler (some (.Name x np)) (some n) (st :: su) pos' :: hds) ((p, ms) :: l)
section
variable {X : Cx} {cl : Str → Option Addr} {W : WX}
theorem catch_of {n : Str} {i : Nat} {hds : List ExceptHandler} {cs : List ((Str → Bool) × MS)} (J : JCs cl X n hds cs) : ∃ l : List (Value × TS), Clauses X n hds l ∧ ∀ {D : Ends} {τ1 : MEnv} {ρ : Rho} {h h1 : MH} {H : Hp} {ρ1 : Rho} {H1 : Hp} {σ1 : St} {k : Str} {xs : List Dv} {cv : Value} {dd : Option Addr},
    PostS X.K cl W D ρ h H (sCatch i k xs τ1 h1 cs) → HRel X.K cl ρ1 h1 H1 → Ext ρ h H ρ1 h1 H1 → EnvR X.K cl ρ1 h1 H1 τ1 σ1 → ExcR X.K cl ρ1 h1 H1 k xs cv dd → wTrs X.K i W D l cv dd σ1 H1 := by
  induction J with
  | nil => exact ⟨[], .nil, fun {D τ1 ρ h h1 H ρ1 H1 σ1 k xs cv dd} p _ _ _ _ => (show False from p).elim⟩
  | @cons x c pr ms st su np pos' hds l hc hd hsu r ih =>
    obtain ⟨l2, c2, f2⟩ := ih
    refine ⟨(c, tS X.K cl NoW ms) :: l2, .cons hc hsu c2, fun {D τ1 ρ h h1 H ρ1 H1 σ1 k xs cv dd} p hr1 e1 er1 x1 => ?_⟩
    have x1' := x1
    obtain ⟨Ca, hcl, rfl, hx⟩ := x1
    unfold sCatch at p
    split at p
    · rename_i hE
      refine ⟨pr k, hd.ex k Ca hE hcl, fun hk => ⟨Ca, rfl, fun a na => ?_⟩, fun hk => ?_⟩
      · rw [if_pos hk] at p
        obtain ⟨g1, g2, g3⟩ := hr1.newV (o := .ext (ExcP a Ca dd)) na
        have rx : RelD X.K cl ρ1 h1 (upd H1 a (.ext (ExcP a Ca dd))) (.exc k xs) (.ref a) := by
          rcases hx with ⟨rfl, rfl⟩ | ⟨x, u, b, rfl, rfl, hb1, nb, rxu⟩
          · exact .exc0 hcl upd_same g3
          · exact .exc1 hcl upd_same g3 ((upd_ne (ne_of_none hb1 na)).trans hb1) (fun l => nb l) (rxu.mono g2)
        refine ⟨τ1.set i (some (.exc k xs)), ρ1, h1, g1, (er1.mono g2).set i rx, ?_⟩
        have ee := e1.trans g2
        cases es : ms (τ1.set i (some (.exc k xs))) h1 with
        | nx τ2 h2 => simp only [es] at p; exact fun ρ2 H2 σ2 hr2 e2 er2 => p ρ2 H2 _ hr2 (ee.trans e2) (er2.unset i)
        | bk τ2 h2 => simp only [es] at p; exact fun ρ2 H2 σ2 hr2 e2 er2 => p ρ2 H2 _ hr2 (ee.trans e2) (er2.unset i)
        | ct τ2 h2 => simp only [es] at p; exact fun ρ2 H2 σ2 hr2 e2 er2 => p ρ2 H2 _ hr2 (ee.trans e2) (er2.unset i)
        | rt d h2 => simp only [es] at p; exact fun ρ2 H2 v hr2 e2 r2 => p ρ2 H2 v hr2 (ee.trans e2) r2
        | err k2 xs2 τ2 h2 => simp only [es] at p; exact p.elim
        | stuck => simp only [es] at p; exact p.elim
      · rw [hk, if_neg Bool.false_ne_true] at p
        exact f2 p hr1 e1 er1 x1'
    · exact p.elim
theorem js_trys {n : Str} {i : Nat} {body : List Stmt} {h₀ : ExceptHandler} {hds : List ExceptHandler} {pos : Pos} {m : MS} {cs : List ((Str → Bool) × MS)} (hs : X.stack = X.env :: X.outer) (hf : X.env.frame = some X.env.locals) (hex : X.ex = []) (hN : X.N.Nodup) (hi : X.N[i]? = some n) (hln : X.env.kindOf n = some .local) (tk : Takes X W)
    (hb : ∀ (W' : WX) (pn : List (Addr × Obj)) (xe : Value → Shared → Prop), Takes (X.tr pn xe) W' → PassesOwn (model X.prog X.w) X.A X.env xe → JSs cl W' (X.tr pn xe) body m) (J : JCs cl X n (h₀ :: hds) cs) :
    JS cl W X (.Try body (h₀ :: hds) [] [] pos) (sTrys m i cs) := by
  obtain ⟨l, c, f⟩ := catch_of (W := W) (i := i) J
  refine ps_imp (ps_tryTs (tb := fun W' => tS X.K cl W' m) hs hf hex hN hi hln tk hb c) fun D σ H q => ?_
  obtain ⟨τ, ρ, h, hr, er, p⟩ := q
  refine ⟨τ, ρ, h, hr, er, ?_⟩
  unfold sTrys at p
  cases em : m τ h with
  | nx τ1 h1 => simp only [em] at p; exact p
  | rt d h1 => simp only [em] at p; exact p
  | bk τ1 h1 => simp only [em] at p; exact p
  | ct τ1 h1 => simp only [em] at p; exact p
  | stuck => simp only [em] at p; exact p
  | err k xs τ1 h1 =>
    simp only [em] at p
    exact fun ρ1 H1 σ1 cv dd hr1 e1 er1 x1 => f p hr1 e1 er1 x1
/-! ### e.house -/
structure XfT (K : PySem.W.Frag) (cl : Str → Option Addr) : Prop where
  ex : ∀ c Ca, isE EXCS c = true → cl c = some Ca → XfC K Ca ∧ PySem.W.findIn K (.ref Ca) "house" = some none
theorem pe_xh {e : Expr} {te : TE} {pos : Pos} (he : PE X e te) (hb : attributeBase e "house" X.env (eval e X.env) = eval e X.env := by rfl) :
    PE X (.Attribute e "house" pos) (fun σ H Q => te σ H fun x G => ∃ a Ca b u, x = .ref a ∧ G a = some (.ext (ExcP a Ca (some b))) ∧ G b = some (.xd [(("house" : Str), u)]) ∧ XfC X.K Ca ∧ PySem.W.findIn X.K (.ref Ca) "house" = some none ∧ Q u G) := by
  constructor
  intro pins s σ H Q I hyp
  refine attr_of hb (thn (he.run pins s σ H _ I hyp) fun v t ⟨x, G, J, rx, a, Ca, b, u, ex, ea, eb, T, hno, q⟩ => ?_)
  subst ex
  cases (show v = Value.ref a from rx)
  obtain ⟨⟨oe, g1, ⟨z1, z2⟩, vs, hd⟩, _⟩ := J.hok a _ ea
  have hx : ObjOk X.prog X.w G t.heap b (.xd [(("house" : Str), u)]) := J.hok b _ eb
  obtain ⟨mA, hns, hr⟩ := hx
  obtain ⟨od, ho, hl⟩ := lookIn_ns hns
  obtain ⟨u', hu, ru⟩ := RelO.some_of (v := u) (o := mA "house") (by have := hr "house"; simpa [List.lookup] using this)
  have inst : PySem.W.InstAt t.heap a oe Ca (some od) := ⟨g1, z1, by unfold PySem.W.notCls; rw [hd] <;> rfl, by rw [z2]; exact ho⟩
  exact HandSPX.exc_get J.kIn inst T.ga T.gg T.exC (PySem.W.findObj_own T.hdC hno rfl (by rw [hl, hu])) (handed_of ru) ⟨u, G, J.tok _, ru, q⟩
def oHouse : Dv → MH → Res Dv
  | .exc c [x], h => if isE EXCS c = true then .ok x h else .stuck
  | _, _ => .stuck
theorem je_house {e : Expr} {m : ME} {pos : Pos} (T : XfT X.K cl) (he : JE cl W X e m) (hb : attributeBase e "house" X.env (eval e X.env) = eval e X.env := by rfl) : JE cl W X (.Attribute e "house" pos) (eOp1 oHouse m) := by
  refine pe_imp (pe_xh he hb) fun σ H Q q => ?_
  refine tM_bind (R1 := RD X.K cl) (f := fun _ => oHouse) q fun τ ρ1 h1 H1 d v hr1 er1 r1 p1 => ?_
  unfold oHouse at p1
  split at p1
  · split at p1
    · rename_i hE
      cases r1 with
      | @exc1 a Ca b c x u hcl ha na hb1 nb rx =>
        obtain ⟨t1, t2⟩ := T.ex _ _ hE hcl
        exact ⟨a, Ca, b, u, rfl, ha, hb1, t1, t2, p1 ρ1 H1 u hr1 (.refl _ _ _) rx⟩
    · exact p1.elim
  · exact p1.elim
end
end L2.Mi

/-! MiSeq: list(range), extend, reversed slices, enumerate, lists made as cells, fields by an operator. -/
namespace L2.Mi
open PySem PySem.Spec PyProof.Rows
section
variable {X : Cx} {cl : Str → Option Addr} {W : WX}
/-! ### list(range(..)) -/
def cRgL (i j : Int) : Bool := decide ((-(2 ^ 62) ≤ i ∧ i < 2 ^ 62 ∧ -(2 ^ 62) ≤ j ∧ j < 2 ^ 62) ∧ (j - i).toNat ≤ 16777216)
theorem cRgL_ok {i j : Int} (h : cRgL i j = true) : RgOk i j := by
  have h := of_decide_eq_true h
  obtain ⟨⟨a, b, c, d⟩, e⟩ := h
  exact ⟨a, b, c, d, e⟩
theorem rg_rel {K : PySem.W.Frag} {ρ : Rho} {h : MH} {H : Hp} (i j : Int) : RelDs K cl ρ h H (rangeD i j) (rgV i j) := by
  have e1 : rangeD i j = ((List.range (j - i).toNat).map fun (k : Nat) => i + (k : Int)).map Dv.int := by unfold rangeD; rw [List.map_map]; rfl
  have e2 : rgV i j = ((List.range (j - i).toNat).map fun (k : Nat) => i + (k : Int)).map V.int := by unfold rgV; rw [List.map_map]; rfl
  rw [e1, e2]
  exact RelDs.ints _
def oRgL (mk : List Dv → MH → Res Dv) (i j : Int) (h : MH) : Res Dv := if cRgL i j = true then mk (rangeD i j) h else .stuck
def fRg1 (mk : List Dv → MH → Res Dv) : List Dv → MH → Res Dv
  | [.int j], h => oRgL mk 0 j h
  | _, _ => .stuck
def fRg2 (mk : List Dv → MH → Res Dv) : List Dv → MH → Res Dv
  | [.int i, .int j], h => oRgL mk i j h
  | _, _ => .stuck
/-- by value, as a cell -/
def lV (xs : List Dv) (h : MH) : Res Dv := .ok (.lst xs) h
def lC (xs : List Dv) (h : MH) : Res Dv := .ok (.obj h.length) (h ++ [.lst xs])
structure LkOk (K : PySem.W.Frag) (cl : Str → Option Addr) (mk : List Dv → MH → Res Dv) : Prop where
  ne : ∀ xs h, NoErr (mk xs h)
  fin : ∀ {W : WX} {σ : St} {ρ : Rho} {h : MH} {H : Hp} {xs : List Dv} {vs : List V} {Q : VK}, HRel K cl ρ h H → RelDs K cl ρ h H xs vs → Post K cl (RD K cl) W σ ρ h H (mk xs h) Q → ∀ q, H q = none → Q (.ref q) (upd H q (.lst vs))
theorem lV_ok : LkOk X.K cl lV := ⟨fun _ _ => trivial, fun hr rs p => new_lst hr rs p⟩
theorem lC_ok : LkOk X.K cl lC := ⟨fun _ _ => trivial, fun hr rs p => new_lstM hr rs p⟩
theorem je_rg1 {mk : List Dv → MH → Res Dv} {a : Expr} {m : ME} {p p2 pos q2 : Pos} (k : LkOk X.K cl mk) (hc : X.calm = true) (hg : Gl X "list") (hm : X.mg "list" = none) (hg2 : Gl X "range") (hm2 : X.mg "range" = none) (ha : JE cl W X a m)
    (na : starEach [a] X.env = (false, eval a X.env) :: starEach [] X.env := by rfl) (nb : starEach [.Call (.Name "range" p2) [a] [] q2] X.env = (false, eval (.Call (.Name "range" p2) [a] [] q2) X.env) :: starEach [] X.env := by rfl) :
    JE cl W X (.Call (.Name "list" p) [.Call (.Name "range" p2) [a] [] q2] [] pos) (eOps (fRg1 mk) (aCons m aNil)) := by
  refine pe_imp (pe_listRg hc hg hm (prg_1 hg2 hm2 ha na) nb) fun σ H Q q => ?_
  have q' : tM X.K cl (RD X.K cl) W (fun τ h => (m τ h).bind fun d h1 => fRg1 mk [d] h1) σ H Q := by
    obtain ⟨τ, ρ, h, hr, er, pp⟩ := q
    refine ⟨τ, ρ, h, hr, er, ?_⟩
    have e1 : eOps (fRg1 mk) (aCons m aNil) τ h = (m τ h).bind fun d h1 => fRg1 mk [d] h1 := by
      unfold eOps aCons aNil
      cases m τ h <;> rfl
    rw [e1] at pp
    exact pp
  refine tM_bind (R1 := RD X.K cl) (f := fun _ d h1 => fRg1 mk [d] h1) q' fun τ ρ1 h1 H1 d v hr1 er1 r1 p1 => ?_
  cases r1 with
  | int j =>
    refine ⟨j, rfl, ?_⟩
    have p1 : Post X.K cl (RD X.K cl) W σ ρ1 h1 H1 (if cRgL 0 j = true then mk (rangeD 0 j) h1 else .stuck) Q := p1
    split at p1
    · rename_i hj
      exact ⟨cRgL_ok hj, k.fin hr1 (rg_rel 0 j) p1⟩
    · exact p1.elim
  | _ => exact p1.elim
theorem je_rg2 {mk : List Dv → MH → Res Dv} {a b : Expr} {m mb : ME} {p p2 pos q2 : Pos} (k : LkOk X.K cl mk) (hc : X.calm = true) (hg : Gl X "list") (hm : X.mg "list" = none) (hg2 : Gl X "range") (hm2 : X.mg "range" = none) (ha : JE cl W X a m) (hb : JE cl W X b mb)
    (na : starEach [a, b] X.env = (false, eval a X.env) :: starEach [b] X.env := by rfl) (nb : starEach [b] X.env = (false, eval b X.env) :: starEach [] X.env := by rfl) (hp : (backTo q2 (starEach [b] X.env)).any (·.1) = false := by rfl)
    (nc : starEach [.Call (.Name "range" p2) [a, b] [] q2] X.env = (false, eval (.Call (.Name "range" p2) [a, b] [] q2) X.env) :: starEach [] X.env := by rfl) :
    JE cl W X (.Call (.Name "list" p) [.Call (.Name "range" p2) [a, b] [] q2] [] pos) (eOps (fRg2 mk) (aCons m (aCons mb aNil))) := by
  refine pe_imp (pe_listRg hc hg hm (prg_2 hg2 hm2 ha hb na nb hp) nc) fun σ H Q q => ?_
  have q' : tM X.K cl (RD X.K cl) W (fun τ h => (m τ h).bind fun d h1 => (mb τ h1).bind fun e h2 => fRg2 mk [d, e] h2) σ H Q := by
    obtain ⟨τ, ρ, h, hr, er, pp⟩ := q
    refine ⟨τ, ρ, h, hr, er, ?_⟩
    have e1 : eOps (fRg2 mk) (aCons m (aCons mb aNil)) τ h = (m τ h).bind fun d h1 => (mb τ h1).bind fun e h2 => fRg2 mk [d, e] h2 := by
      show ((m τ h).bind fun x h1 => ((mb τ h1).bind fun y h2 => Res.ok [y] h2).bind fun xs h3 => Res.ok (x :: xs) h3).bind (fRg2 mk) = _
      cases m τ h with
      | ok d h1 =>
        show (((mb τ h1).bind fun y h2 => Res.ok [y] h2).bind fun xs h3 => Res.ok (d :: xs) h3).bind (fRg2 mk) = (mb τ h1).bind fun e h2 => fRg2 mk [d, e] h2
        cases mb τ h1 <;> rfl
      | err c xs h1 => rfl
      | stuck => rfl
    rw [e1] at pp
    exact pp
  refine tM_bind (R1 := RD X.K cl) (f := fun τ d h1 => (mb τ h1).bind fun e h2 => fRg2 mk [d, e] h2) q' fun τ ρ1 h1 H1 d v hr1 er1 r1 p1 => ?_
  refine ⟨τ, ρ1, h1, hr1, er1, Post.bind p1 fun e h2 ρ2 H2 u hr2 e2 r2 p2 => ?_⟩
  obtain ⟨i, j, rfl, rfl⟩ : ∃ i j, d = .int i ∧ e = .int j := by cases d <;> cases e <;> first | exact ⟨_, _, rfl, rfl⟩ | exact p2.elim
  cases r1
  cases r2
  refine ⟨i, j, rfl, rfl, ?_⟩
  have p2 : Post X.K cl (RD X.K cl) W σ ρ2 h2 H2 (if cRgL i j = true then mk (rangeD i j) h2 else .stuck) Q := p2
  split at p2
  · rename_i hj
    exact ⟨cRgL_ok hj, k.fin hr2 (rg_rel i j) p2⟩
  · exact p2.elim
end
end L2.Mi

/-! MiSeq2: extend, reversed slices, enumerate, lists made as cells, fields by an operator, own classes asked. -/
namespace L2.Mi
open PySem PySem.Spec PyProof.Rows
section
variable {X : Cx} {cl : Str → Option Addr} {W : WX}
/-! ### xs.extend(ys) -/
def gExtend : List Dv → List Dv → Option (Dv × List Dv)
  | xs, [.lst ys] => if lineB (xs.length + ys.length) = true then some (.non, xs ++ ys) else none
  | _, _ => none
theorem mth_extend : MthM X cl "list.extend" gExtend := by
  refine ⟨⟨_, mt_extend, fun ρ h H a xs ds vs us y ys Q rs rd hH e k => ?_⟩⟩
  unfold gExtend at e
  split at e
  · split at e
    · rename_i hl
      cases e
      obtain ⟨v, rfl, r⟩ := rd.one
      cases r with
      | lst q n rz => exact ⟨a, _, vs, _, rfl, rfl, hH, q, by rw [← rs.length, ← rz.length]; exact lineB_le hl, k _ _ .non (rs.append rz)⟩
    · cases e
  · cases e
/-! ### xs[::-1] -/
def oRev (d : Dv) (h : MH) : Res Dv := match rdK h d with
  | some xs => .ok (.lst xs.reverse) h
  | none => .stuck
theorem je_rev {e : Expr} {m : ME} {k : Nat} {p1 p2 p3 pos : Pos} (he : JE cl W X e m) : JE cl W X (.Subscript e (.Slice none none (some (.UnaryOp .USub (.Constant (.int 1) k p1) p2)) p3) pos) (eOp1 oRev m) := by
  refine pe_imp (pe_revL he) fun σ H Q q => ?_
  refine tM_bind (R1 := RD X.K cl) (f := fun _ => oRev) q fun τ ρ1 h1 H1 d v hr1 er1 r1 p1 => ?_
  unfold oRev at p1
  split at p1
  · rename_i xs ex
    obtain ⟨a, vs, rfl, sq, rs⟩ := rdK_rel hr1 r1 ex
    exact ⟨a, vs, rfl, sq, new_lst hr1 rs.reverse p1⟩
  · exact p1.elim
/-! ### enumerate(xs), xs by value -/
def enumD (xs : List Dv) : List Dv := xs.mapIdx fun i x => .tup [.int (i : Nat), x]
theorem ite_ok {K : PySem.W.Frag} {ρ₀ : Rho} {h₀ : MH} {H₀ : Hp} {a : Addr} {vs : List V} {ds : List Dv} (q : H₀ a = some (.lst vs)) (n : ¬ Live ρ₀ h₀ a) (rs : RelDs K cl ρ₀ h₀ H₀ ds vs) : ItOk K cl ρ₀ h₀ H₀ (enumD ds) .free (Ite K a) := by
  have at_ : ∀ {ρ h H}, Ext1 ρ₀ h₀ H₀ ρ h H → SqL K H a vs := fun e => .of (e.keep _ _ q n rfl).1
  have hl := rs.length
  have le : (enumD ds).length = ds.length := by unfold enumD; rw [List.length_mapIdx]
  refine ⟨fun ρ h H i hr e _ hi => ⟨vs, vs[i]'(by omega), at_ e, by simp⟩, fun ρ h H hr e _ => ⟨vs, at_ e, by omega⟩, fun ρ h H i d x H' hr e _ hd y => ?_⟩
  obtain ⟨T, y1, rfl, hT, rfl, y2⟩ := y
  unfold enumD at hd
  rw [List.getElem?_mapIdx] at hd
  cases hx : ds[i]? with
  | none => rw [hx] at hd; cases hd
  | some x0 =>
    rw [hx] at hd
    cases hd
    obtain ⟨v, hv, r⟩ := rs.get hx
    have y3 := y2 vs (at_ e)
    rw [hv] at y3
    have y4 := Option.some.inj y3
    subst y4
    obtain ⟨n1, n2, n3⟩ := hr.newV (o := .tup [V.int (i : Nat), v]) hT
    exact ⟨n1, n2, .tup (.inl ⟨upd_same, n3⟩) (.cons (.int _) (.cons ((r.mono0 e.toExt0).mono n2) .nil))⟩
def asEnum : List Dv → MH → Res (List Dv × Gd)
  | [.lst xs], h => .ok (enumD xs, .free) h
  | _, _ => .stuck
def iEnumM (ma : MA) : MI := fun τ h => (ma τ h).bind asEnum
theorem ji_enum {e : Expr} {m : MA} {p pos tpos : Pos} {elts : List Expr} {kk : Nat} (hg : Gl X "enumerate") (hm : X.mg "enumerate" = none) (ha : JA cl W X [e] m) (hs : starEach [e] X.env = [(false, eval e X.env)] := by rfl) :
    JI cl W X (.Tuple elts kk tpos) (.Call (.Name "enumerate" p) [e] [] pos) (iEnumM m) := by
  refine pi_imp (pi_enum hg hm ha hs) fun σ H Q q => ?_
  refine tM_bind (R1 := RDs X.K cl) (f := fun _ => asEnum) q fun τ ρ1 h1 H1 d v hr1 er1 r1 p1 => ?_
  unfold asEnum at p1
  split at p1
  · obtain ⟨w, rfl, r⟩ := r1.one
    cases r with
    | lst q n rs => exact ⟨_, _, rfl, .of q, p1 ρ1 H1 _ hr1 (.refl _ _ _) (ite_ok q n rs)⟩
  · exact p1.elim
/-! ### xs * k, as a cell -/
def oRepM : Dv → Dv → MH → Res Dv := fun a b h => match a, b with
  | .lst xs, .int k => if (decide (-(2 ^ 63) ≤ k ∧ k < 2 ^ 63) && lineB (xs.length * k.toNat)) = true then .ok (.obj h.length) (h ++ [.lst (repD xs k.toNat)]) else .stuck
  | _, _ => .stuck
theorem op2_repM : Op2 X cl (binaryOp .Mult) oRepM := by
  refine ⟨⟨_, op_repS, fun σ ρ h H a b x y Q hr ra rb p => ?_⟩, fun a b h => ?_⟩
  · unfold oRepM at p
    split at p
    · split at p
      · rename_i xs k hc
        rw [Bool.and_eq_true] at hc
        have h1 := of_decide_eq_true hc.1
        cases rb
        cases ra with
        | @lst a _ vs q n rs => exact ⟨a, k, vs, rfl, rfl, .inl q, h1.1, h1.2, by rw [← rs.length]; exact lineB_le hc.2, new_lstM hr (rep_rel rs _) p⟩
      · exact p.elim
    · exact p.elim
  · unfold oRepM
    split
    · split <;> trivial
    · trivial
/-! ### o.f += e -/
def sFldAugM (cs : List Str) (f : Str) (g : Int → Int → Int) (mo m : ME) : MS := fun τ h => (mo τ h).toS τ fun o h1 => match insOf h1 o with
  | some (i, C, fs) => if isE cs C = true then (match fs.lookup f with
    | some (.int x) => (m τ h1).toS τ fun y h2 => match y, insOf h2 (.obj i) with
      | .int y, some (_, C', fs') => if (C' == C && decide (fs'.length < 1000)) = true then .nx τ (h2.set i (.ins C (putD f (.int (g x y)) fs'))) else .stuck
      | _, _ => .stuck
    | _ => .stuck) else .stuck
  | none => .stuck
theorem js_fldAug {o e : Expr} {m mo : ME} {f : Str} {cs : List Str} {pos tpos : Pos} (T : FldT X.K cl cs f) (ho : JE cl W X o mo) (he : JE cl W X e m) : JS cl W X (.AugAssign (.Attribute o f tpos) .Add e pos) (sFldAugM cs f (· + ·) mo m) := by
  refine ps_imp (ps_fldaug ho he in_add) fun D σ H q => ?_
  refine tS_bind (R1 := RD X.K cl) (k := fun τ o h1 => match insOf h1 o with
    | some (i, C, fs) => if isE cs C = true then (match fs.lookup f with
      | some (.int x) => (m τ h1).toS τ fun y h2 => match y, insOf h2 (.obj i) with
        | .int y, some (_, C', fs') => if (C' == C && decide (fs'.length < 1000)) = true then .nx τ (h2.set i (.ins C (putD f (.int (x + y)) fs'))) else .stuck
        | _, _ => .stuck
      | _ => .stuck) else .stuck
    | none => .stuck) q fun τ ρ1 h1 H1 d v hr1 er1 r1 p1 => ?_
  cases ei : insOf h1 d with
  | none => simp only [ei] at p1; exact p1.elim
  | some c =>
    obtain ⟨i, C, fs⟩ := c
    simp only [ei] at p1
    obtain ⟨a, Ca, dx, vfs, rfl, rfl, c0, c1, c2, c3, c4, c5⟩ := insOf_rel hr1 r1 ei
    split at p1
    · rename_i hc
      obtain ⟨k1, k2⟩ := T.ex C Ca hc c2
      cases el : fs.lookup f with
      | none => simp only [el] at p1; exact p1.elim
      | some x0 =>
        cases x0 with
        | int x =>
          simp only [el] at p1
          obtain ⟨y0, ey, ry⟩ := (look_rel c4 c5).1 _ el
          cases ry
          refine ⟨a, Ca, dx, vfs, _, rfl, c3, k1, k2, ey, τ, ρ1, h1, hr1, er1, PostS.bind er1 p1 fun yd h2 ρ2 H2 yv hr2 e2 r2 p2 => ?_⟩
          cases yd with
          | int y =>
            cases r2
            cases ej : insOf h2 (.obj i) with
            | none => simp only [ej] at p2; exact p2.elim
            | some c' =>
              obtain ⟨i', C', fs'⟩ := c'
              simp only [ej] at p2
              split at p2
              · rename_i hc2
                rw [Bool.and_eq_true] at hc2
                have eC : C' = C := by simpa using hc2.1
                subst eC
                have ro : RelD X.K cl ρ2 h2 H2 (.obj i) (.ref a) := .obj (e2.rho _ _ c0)
                obtain ⟨b, Cb, dx', vfs', eb, eo, d0, d1, d2, d3, d4, d5⟩ := insOf_rel hr2 ro ej
                cases eb
                cases eo
                rw [c2] at d2
                cases d2
                have hl : vfs'.length = fs'.length := by have := congrArg List.length d4; simpa using this.symm
                refine ⟨x, y, rfl, rfl, dx', vfs', d3, by rw [hl]; exact of_decide_eq_true hc2.2, ?_⟩
                obtain ⟨w1, w2⟩ := hr2.write (c' := .ins C' (putD f (.int (x + y)) fs')) (o := .ins Ca dx' (putF f (.int (x + y)) vfs')) d1 rfl d0 fun ee => by
                  obtain ⟨z1, z2⟩ := put_rel (K := X.K) (cl := cl) (f := f) (x := Dv.int (x + y)) (y := V.int (x + y)) (.int _) d4 (d5.mono ee)
                  exact ⟨Ca, dx', _, c2, upd_same, z1, z2⟩
                exact p2 ρ2 _ σ w1 w2 ((er1.mono e2).mono w2)
              · exact p2.elim
          | _ => exact p2.elim
        | _ => simp only [el] at p1; exact p1.elim
    · exact p1.elim
/-! ### isinstance(x, an own class) -/
structure IoT (K : PySem.W.Frag) (cl : Str → Option Addr) (u : Value) (names own : List Str) : Prop where
  own : ∀ c Ca, isE own c = true → cl c = some Ca → Cls K Ca ∧ PySem.W.findIn K (.ref Ca) "__class__" = some (some (.builtin "object.__class__")) ∧ PySem.W.mroIn K Ca (.type "object") = some true ∧ PySem.W.kitOne K (.ref Ca) u = some (isE names c)
  blt : ∀ a, a = "NoneType" ∨ a = "bool" ∨ a = "int" ∨ a = "str" ∨ a = "list" ∨ a = "tuple" ∨ a = "dict" → PySem.W.kitOne K (.type a) u = some false
  hn : PySem.W.specialIn K (.builtin "object.__class__") "__get__" = some (some (.builtin "getset_descriptor.__get__"))
  ht : PySem.W.takesIn K (.builtin "object.__class__") = some true
def oIsO (names own : List Str) (d : Dv) (h : MH) : Res Dv := match insOf h d with
  | some (_, c, _) => if isE own c = true then .ok (.bl (isE names c)) h else .stuck
  | none => match tyN h d with
    | some _ => .ok (.bl false) h
    | none => .stuck
theorem je_isO {D : Addr} {x : Str} {names own : List Str} {p pos p2 : Pos} {e : Expr} {m : ME} (T : IoT X.K cl (.ref D) names own) (hg : Gl X "isinstance") (hm : X.mg "isinstance" = none) (hg2 : Gl X x) (hm2 : X.mg x = some (.ref D)) (he : JE cl W X e m) (hdb : (x == ("__debug__" : Str)) = false := by decide)
    (hs1 : starEach [e, .Name x p2] X.env = (false, eval e X.env) :: starEach [.Name x p2] X.env := by rfl) (hs2 : starEach [.Name x p2] X.env = (false, eval (.Name x p2) X.env) :: starEach [] X.env := by rfl) (hpl : (backTo pos (starEach [.Name x p2] X.env)).any (·.1) = false := by rfl) :
    JE cl W X (.Call (.Name "isinstance" p) [e, .Name x p2] [] pos) (eOp1 (oIsO names own) m) := by
  refine pe_imp (pe_callB call_isiZ hg hm bt_isinstance (pa_cons he (pa_cons (pe_glob (v := .ref D) hg2 hm2 rfl hdb) pa_nil hs2) hs1) (by decide) (by decide) hs1 hpl) fun σ H Q q => ?_
  refine tM_bind (R1 := RD X.K cl) (f := fun _ => oIsO names own) q fun τ ρ1 h1 H1 d v hr1 er1 r1 p1 => ?_
  unfold oIsO at p1
  split at p1
  · rename_i i c fs ei
    obtain ⟨a, Ca, dx, vfs, rfl, rfl, c0, c1, c2, c3, c4, c5⟩ := insOf_rel hr1 r1 ei
    split at p1
    · rename_i hc
      obtain ⟨k1, k2, k3, k4⟩ := T.own c Ca hc c2
      exact ⟨.ref a, .ref D, _, _, _, rfl, .own D, .inl (.base (TyOf.ins c3 k1 k2 T.hn T.ht k3)), k4, p1 ρ1 H1 _ hr1 (.refl _ _ _) (.bl _)⟩
    · exact p1.elim
  · split at p1
    · rename_i a ea
      exact ⟨v, .ref D, _, _, _, rfl, .own D, tyX_of hr1 r1 ea, T.blt a (tyN_mem ea), p1 ρ1 H1 _ hr1 (.refl _ _ _) (.bl _)⟩
    · exact p1.elim
/-! ### a cell's value from now on -/
/-- the name's list, or dict, is data from now on -/
def eFrzV (i : Nat) (m : ME) : ME := fun τ h => match τ[i]? with
  | some (some d) => m (τ.set i (some (frzD d h).1)) (frzD d h).2
  | _ => .stuck
theorem je_frzV {i : Nat} {e : Expr} {m : ME} (he : JE cl W X e m) : JE cl W X e (eFrzV i m) := by
  refine pe_imp he fun σ H Q q => ?_
  obtain ⟨τ, ρ, h, hr, er, p⟩ := q
  unfold eFrzV at p
  split at p
  · rename_i d ed
    obtain ⟨v, ev, r⟩ := er.2 i d ed
    obtain ⟨f1, f2, f3⟩ := frz_rel hr r
    have er2 : EnvR X.K cl ρ (frzD d h).2 H (τ.set i (some (frzD d h).1)) σ := by
      have z := (er.mono f2).set i f3
      have e2 : σ.set i (some v) = σ := by
        refine List.ext_getElem? fun j => ?_
        by_cases hj : i = j
        · subst hj
          rw [List.getElem?_set_self (List.getElem?_eq_some_iff.mp ev).1, ev]
        · rw [List.getElem?_set_ne hj]
      rw [e2] at z
      exact z
    exact ⟨_, ρ, _, f1, er2, Post.later (r := m _ _) p f2⟩
  · exact p.elim
/-- by the receiver's class -/
def eAltV (i : Nat) (cs : List Str) (a b : ME) : ME := fun τ h => match τ[i]? with
  | some (some d) => (match insOf h d with
    | some (_, C, _) => if isE cs C = true then a τ h else b τ h
    | none => .stuck)
  | _ => .stuck
theorem je_altV {i : Nat} {cs : List Str} {e : Expr} {a b : ME} (ha : JE cl W X e a) (hb : JE cl W X e b) : JE cl W X e (eAltV i cs a b) := by
  refine pe_imp (pe_or ha hb) fun σ H Q q => ?_
  obtain ⟨τ, ρ, h, hr, er, p⟩ := q
  unfold eAltV at p
  split at p
  · split at p
    · split at p
      · exact .inl ⟨τ, ρ, h, hr, er, p⟩
      · exact .inr ⟨τ, ρ, h, hr, er, p⟩
    · exact p.elim
  · exact p.elim
end
/-! ### C.m(e, ..), m a def of the class C -/
structure CfAt (P : Program) (w : World) (K : PySem.W.Frag) (mg : Str → Option Value) (base : Heap) (cl : Str → Option Addr) (c m qual : Str) (st : Stmt) (dvs : List V) (kws : List (Str × V)) (k n : Nat) (ps : List Str) (M : MF) : Prop where
  ex : ∃ C f fd mc, mg c = some (.ref C) ∧ ClX.CRead K C mc ∧ ClX.CVal K C mc m (.ref f) (.ref f) ∧ PySem.W.keepIn K (.ref f) = true ∧ FunD K m qual (defArgs st) (defBody st) (defScope st) dvs kws f fd ∧ FnOk P w K mg base (L2.CX P w) k f fd ps (spM K cl n M)
section
variable {X : Cx} {cl : Str → Option Addr} {W : WX} {k n nf : Nat} {st : Stmt} {dvs : List V} {kwd : List (Str × V)} {ps ks : List Str} {fm : MF} {x m qual : Str} {apos p pos : Pos} {e : Expr} {es : List Expr} {kws : List Keyword} {ms mk : MA} {gV : List V → List V → List V} {gD : List Dv → List Dv → List Dv}
theorem je_cf {pl : Sem Bool} (G : CfAt X.prog X.w X.K X.mg X.base cl x m qual st dvs kwd k nf ps fm) (hb : ∀ f fd, FunD X.K m qual (defArgs st) (defBody st) (defScope st) dvs kwd f fd → ∃ g, KBn X.K fd ps n ks g gV)
    (hgr : KRel X.K cl n ks.length gV gD) (hnf : ∀ ds zs, ds.length = n → zs.length = ks.length → (gD ds zs).length = nf) (hr : Room k X.A) (hg : Gl X x) (tk : Takes X W)
    (ha : JA cl W X (e :: es) ms) (hkw : JK cl W X kws mk) (hall : (backToKw pos (keywordEach kws X.env)).all (·.1.isSome) = true := by rfl) (hks : (backToKw pos (keywordEach kws X.env)).filterMap (·.1) = ks := by rfl)
    (hdb : (x == ("__debug__" : Str)) = false := by decide) (he : starEach (e :: es) X.env = (false, eval e X.env) :: starEach es X.env := by rfl)
    (hpl : ((backTo pos (starEach (e :: es) X.env)).any (·.1) || (backToKw pos (keywordEach kws X.env)).any (·.1.isNone)) = false := by rfl)
    (ht : eval (.Call (.Attribute (.Name x p) m apos) (e :: es) kws pos) X.env = (do
      let rv ← eval (.Name x p) X.env
      standAt apos.atName
      let (fn, fst) ← holding [rv] (getMethod rv m pl)
      callWith pos fn fst (backTo pos (starEach (e :: es) X.env)) (backToKw pos (keywordEach kws X.env))) := by rfl) :
    JE cl W X (.Call (.Attribute (.Name x p) m apos) (e :: es) kws pos) (eCall n ks.length gD fm ms mk) := by
  obtain ⟨C, f, fd, mc, g1, g2, g3, g4, g5, g6⟩ := G.ex
  obtain ⟨g, b⟩ := hb f fd g5
  constructor
  intro pins s σ H Q I hyp
  refine PySem.W.methodCall_KW (pl := pl) (ld_glob I hg g1 ?_ hdb) ht
  refine PySem.W.method_cls I.kIn g2.ga (ClX.getcval_ok I g2 g3 fun s1 I1 => ?_)
  refine PySem.W.callWith_KW (first := []) (h₀ := X.base) I1.ok.mod.kin g4 hall (thn (ha.run pos pins s1 σ H _ I1 (args_of hgr hnf hyp)) fun us s2 ⟨vs, H2, I2, r, q⟩ => ?_) hpl he
  refine thn (hkw.run pos pins s2 σ H2 _ I2 q) fun ws s3 ⟨zs, H3, I3, rz, l1, l2, q3⟩ => ⟨I3.kIn, ?_⟩
  rw [hks]
  exact run_fnNS g6 hr b (passAt tk σ) I3 r rz l1 l2 q3
end
end L2.Mi

/-! MiConst: tuples of the module's top. -/
namespace L2.Mi
open PySem PySem.Spec PyProof.Rows
/-- a name of the module that holds a tuple -/
structure TupAt (K : PySem.W.Frag) (mg : Str → Option Value) (x : Str) (vs : List V) : Prop where
  ex : ∃ a, mg x = some (.ref a) ∧ KT K a vs
theorem kt_mk {K : PySem.W.Frag} {a : Addr} {its : Array Value} {n : Nat} {vs : List V} {dd : Option Addr} {sl : Array (Option Value)} (l : K.lookup a = some ⟨.type "tuple", dd, .seq its n, sl⟩) (hz : decide (its.size ≤ 16777216) = true) (r : Vals vs its.toList) : KT K a vs :=
  ⟨_, its, n, l, rfl, rfl, of_decide_eq_true hz, r⟩
section
variable {X : Cx} {cl : Str → Option Addr} {W : WX} {a e : Expr} {m : ME} {x : Str} {p pos : Pos}
/-- e in X, X a tuple of texts -/
def oInK (neg : Bool) (xs : List Str) (d : Dv) (h : MH) : Res Dv := match flatD d with
  | some (.str y) => .ok (.bl (if neg then !xs.contains y else xs.contains y)) h
  | some _ => .ok (.bl neg) h
  | none => .stuck
theorem inV_strs {x : V} (hx : flatV x = true) : ∀ xs : List Str, inV x (xs.map V.str) = (match x with
  | .str y => xs.contains y
  | _ => false)
  | [] => by cases x <;> rfl
  | z :: xs => by
    have ih := inV_strs hx xs
    unfold inV at ih ⊢
    rw [List.map_cons, List.any_cons, ih]
    cases x <;> simp [eqV]
    rename_i y
    congr 1
    rw [Bool.eq_iff_iff, beq_iff_eq, decide_eq_true_iff]
    exact eq_comm
theorem flats_strs : ∀ xs : List Str, (xs.map V.str).all flatV = true
  | [] => rfl
  | _ :: xs => by rw [List.map_cons, List.all_cons, flats_strs xs]; rfl
theorem inK_of {neg : Bool} {xs : List Str} {d : Dv} {v : V} {ρ : Rho} {h : MH} {H : Hp} {b : Addr} {Q : VK} {σ : St} (k : KT X.K b (xs.map V.str)) (hr : HRel X.K cl ρ h H) (r : RelD X.K cl ρ h H d v) (p : Post X.K cl (RD X.K cl) W σ ρ h H (oInK neg xs d h) Q) : rIn X.K neg v (.ref b) H Q := by
  unfold oInK at p
  have main : ∀ r : Bool, flatV v = true → inV v (xs.map V.str) = r → Q (.bl (if neg then !r else r)) H → rIn X.K neg v (.ref b) H Q := fun r hf hi q =>
    ⟨b, xs.map V.str, rfl, .inr (.inr k), hf, flats_strs xs, by rw [hi]; exact q⟩
  cases r with
  | str y =>
    have p : Post X.K cl (RD X.K cl) W σ ρ h H (.ok (.bl (if neg then !xs.contains y else xs.contains y)) h) Q := p
    exact main _ rfl (inV_strs (x := .str y) rfl xs) (p ρ H _ hr (.refl _ _ _) (.bl _))
  | non =>
    have p : Post X.K cl (RD X.K cl) W σ ρ h H (.ok (.bl neg) h) Q := p
    exact main false rfl (inV_strs (x := .non) rfl xs) (by have := p ρ H _ hr (.refl _ _ _) (.bl neg); cases neg <;> exact this)
  | bl y =>
    have p : Post X.K cl (RD X.K cl) W σ ρ h H (.ok (.bl neg) h) Q := p
    exact main false rfl (inV_strs (x := .bl y) rfl xs) (by have := p ρ H _ hr (.refl _ _ _) (.bl neg); cases neg <;> exact this)
  | int y =>
    have p : Post X.K cl (RD X.K cl) W σ ρ h H (.ok (.bl neg) h) Q := p
    exact main false rfl (inV_strs (x := .int y) rfl xs) (by have := p ρ H _ hr (.refl _ _ _) (.bl neg); cases neg <;> exact this)
  | _ => exact p.elim
theorem je_notInK {xs : List Str} (T : TupAt X.K X.mg x (xs.map V.str)) (hg : Gl X x) (ha : JE cl W X a m) (hdb : (x == ("__debug__" : Str)) = false := by decide) (hm : behindInMarks .NotIn (.Name x p) = false := by rfl) :
    JE cl W X (.Compare a [.NotIn] [.Name x p] pos) (eOp1 (oInK true xs) m) := by
  obtain ⟨b, g1, g2⟩ := T.ex
  refine pe_imp (pe_cmpR op_notIn_seq ha (pe_glob (v := .ref b) hg g1 rfl hdb) hm) fun σ H Q q => ?_
  refine tM_bind (R1 := RD X.K cl) (f := fun _ => oInK true xs) q fun τ ρ1 h1 H1 d v hr1 er1 r1 p1 => ?_
  exact inK_of g2 hr1 r1 p1
theorem jt_notInK {xs : List Str} (T : TupAt X.K X.mg x (xs.map V.str)) (hg : Gl X x) (ha : JE cl W X a m) (hdb : (x == ("__debug__" : Str)) = false := by decide) (hm : behindInMarks .NotIn (.Name x p) = false := by rfl) :
    JT cl W X (.Compare a [.NotIn] [.Name x p] pos) (mTest (eOp1 (oInK true xs) m)) := by
  obtain ⟨b, g1, g2⟩ := T.ex
  refine pt_imp (pt_cmpR op_notIn_seq ha (pe_glob (v := .ref b) hg g1 rfl hdb) hm) fun σ H Q q => ?_
  have q := test_of q
  refine tM_bind (R1 := RD X.K cl) (f := fun _ => oInK true xs) q fun τ ρ1 h1 H1 d v hr1 er1 r1 p1 => ?_
  exact inK_of g2 hr1 r1 p1
/-- X[e], X a tuple of ints -/
def oIxK (ns : List Int) (d : Dv) (h : MH) : Res Dv := match d with
  | .int i => (match atI (ns.map Dv.int) i with
    | some y => .ok y h
    | none => .stuck)
  | _ => .stuck
theorem je_ixK {ns : List Int} (T : TupAt X.K X.mg x (ns.map V.int)) (hg : Gl X x) (ha : JE cl W X a m) (hs : PlainIx a) (hdb : (x == ("__debug__" : Str)) = false := by decide) : JE cl W X (.Subscript (.Name x p) a pos) (eOp1 (oIxK ns) m) := by
  obtain ⟨b, g1, g2⟩ := T.ex
  refine pe_imp (pe_ix ix_tup (pe_glob (v := .ref b) hg g1 rfl hdb) ha hs) fun σ H Q q => ?_
  refine tM_bind (R1 := RD X.K cl) (f := fun _ => oIxK ns) q fun τ ρ1 h1 H1 d v hr1 er1 r1 p1 => ?_
  unfold oIxK at p1
  split at p1
  · rename_i i
    split at p1
    · rename_i y ey
      cases r1
      obtain ⟨w, e2, r2⟩ := atI_rel (RelDs.ints (K := X.K) (cl := cl) (ρ := ρ1) (h := h1) (H := H1) ns) ey
      exact ⟨b, ns.map V.int, i, w, rfl, rfl, .inr g2, e2, p1 ρ1 H1 w hr1 (.refl _ _ _) r2⟩
    · exact p1.elim
  · exact p1.elim
end
/-- nothing, as a default: a tuple of the written part -/
theorem rel_unit {K : PySem.W.Frag} {cl : Str → Option Addr} {ρ : Rho} {h : MH} {H : Hp} {a : Addr} (k : KT K a []) : RelD K cl ρ h H (.tup []) (.ref a) := .tup (.inr ⟨k, rfl⟩) .nil
end L2.Mi
namespace L2.Mi
open PySem PySem.Spec PyProof.Rows
section
variable {K : PySem.W.Frag} {cl : Str → Option Addr} {ρ : Rho} {h : MH} {H : Hp}
/-- defaults of both kinds, nothing among them -/
def DfK (K : PySem.W.Frag) : List Dv → List V → Prop
  | [], [] => True
  | d :: ds, v :: vs => (scalV d = some v ∨ ∃ a, d = .tup [] ∧ v = .ref a ∧ KT K a []) ∧ DfK K ds vs
  | _, _ => False
theorem DfK.rel : ∀ {ds : List Dv} {vs : List V}, DfK K ds vs → RelDs K cl ρ h H ds vs
  | [], [], _ => .nil
  | d :: ds, v :: vs, e => by
    obtain ⟨e1, e2⟩ := e
    refine .cons ?_ (DfK.rel e2)
    rcases e1 with e1 | ⟨a, rfl, rfl, k⟩
    · cases d with
      | non => cases e1; exact .non
      | bl b => cases e1; exact .bl b
      | int b => cases e1; exact .int b
      | str b => cases e1; exact .str b
      | _ => cases e1
    · exact rel_unit k
theorem krel_plcK {n m : Nat} {pt : List Plc} {dT dM : List Dv} {vT vM : List V} (hT : DfK K dT vT) (hM : DfK K dM vM) : KRel K cl n m (fun vs zs => plc pt vs vT vM zs) (fun ds zs => plc pt ds dT dM zs) :=
  fun _ _ _ _ _ _ _ _ _ r1 r2 => plc_rels r1 hT.rel hM.rel r2 pt
end
/-- several clauses: what a program's text says of a class in them -/
structure HbAt (K : PySem.W.Frag) (mg : Str → Option Value) (cl : Str → Option Addr) (x : Str) (names : List Str) : Prop where
  ex : ∃ C, mg x = some (.ref C) ∧ HdB K cl (.ref C) (isE names)
inductive JCx (cl : Str → Option Addr) (X : Cx) (n : Str) : List ExceptHandler → List ((Str → Bool) × MS) → Prop
  | nil : JCx cl X n [] []
  | cons {x : Str} {names : List Str} {ms : MS} {st : Stmt} {su : List Stmt} {np pos' : Pos} {hds : List ExceptHandler} {l : List ((Str → Bool) × MS)} (T : HbAt X.K X.mg cl x names) (hg : Gl X x) (hd : (x == ("__debug__" : Str)) = false) (hsu : ∀ (a : Addr) (pn : List (Addr × Obj)), JSs cl NoW (X.suite a pn) (st :: su) ms)
      (r : JCx cl X n hds l) : JCx cl X n (.ExceptHandler (some (.Name x np)) (some n) (st :: su) pos' :: hds) ((isE names, ms) :: l)
theorem JCx.toJCs {cl : Str → Option Addr} {X : Cx} {n : Str} {hds : List ExceptHandler} {l : List ((Str → Bool) × MS)} (J : JCx cl X n hds l) : JCs cl X n hds l := by
  induction J with
  | nil => exact .nil
  | cons T hg hd hsu r ih =>
    obtain ⟨C, g1, g2⟩ := T.ex
    exact .cons ⟨hg, hd, .inl g1⟩ g2 hsu ih
structure IoAt (K : PySem.W.Frag) (mg : Str → Option Value) (cl : Str → Option Addr) (x : Str) (names own : List Str) : Prop where
  ex : ∃ D, mg x = some (.ref D) ∧ IoT K cl (.ref D) names own
theorem je_isOx {X : Cx} {cl : Str → Option Addr} {W : WX} {x : Str} {names own : List Str} {p pos p2 : Pos} {e : Expr} {m : ME} (T : IoAt X.K X.mg cl x names own) (hg : Gl X "isinstance") (hm : X.mg "isinstance" = none) (hg2 : Gl X x) (he : JE cl W X e m) (hdb : (x == ("__debug__" : Str)) = false := by decide)
    (hs1 : starEach [e, .Name x p2] X.env = (false, eval e X.env) :: starEach [.Name x p2] X.env := by rfl) (hs2 : starEach [.Name x p2] X.env = (false, eval (.Name x p2) X.env) :: starEach [] X.env := by rfl) (hpl : (backTo pos (starEach [.Name x p2] X.env)).any (·.1) = false := by rfl) :
    JE cl W X (.Call (.Name "isinstance" p) [e, .Name x p2] [] pos) (eOp1 (oIsO names own) m) := by
  obtain ⟨D, g1, g2⟩ := T.ex
  exact je_isO g2 hg hm hg2 g1 he hdb hs1 hs2 hpl
/-- len(set(xs)) -/
def gLenSet (ns : List Int) (h : MH) : Res Dv := if decide (ns.length < 16777216) = true then .ok (.int (sortU ns).length) h else .stuck
end L2.Mi

/-! MiLenSet: len(set(xs)) of ints. -/
namespace L2.Mi
open PySem PySem.Spec PyProof.Rows
theorem perm_len {xs ys : List Int} (h1 : xs.Nodup) (h2 : ys.Nodup) (h : ∀ k, k ∈ xs ↔ k ∈ ys) : xs.length = ys.length := by
  induction xs generalizing ys with
  | nil =>
    cases ys with
    | nil => rfl
    | cons y ys => exact absurd ((h y).mpr List.mem_cons_self) (by simp)
  | cons x xs ih =>
    have hx : x ∈ ys := (h x).mp List.mem_cons_self
    obtain ⟨hn, h1⟩ := List.nodup_cons.mp h1
    have e := ih h1 (h2.erase x) fun k => by
      rw [h2.mem_erase_iff]
      constructor
      · intro hk
        exact ⟨fun z => hn (z ▸ hk), (h k).mp (List.mem_cons_of_mem _ hk)⟩
      · rintro ⟨hne, hk⟩
        rcases List.mem_cons.mp ((h k).mpr hk) with z | z
        · exact absurd z hne
        · exact z
    have hl := List.length_erase_of_mem hx
    have hp : 0 < ys.length := List.length_pos_of_mem hx
    rw [List.length_cons, e, hl]
    omega
section
variable {X : Cx} {cl : Str → Option Addr} {W : WX}
def rLenSet (w : World) : List V → Hp → VK → Prop := fun xs H Q => ∃ (a : Addr) (S : Int → Bool) (n : Nat) (ns : List Int), xs = [.ref a] ∧ H a = some (SetO w a S n) ∧ (∀ k, S k = true ↔ k ∈ ns) ∧ ns.length < 16777216 ∧ Q (.int (sortU ns).length) H
theorem call_lenSet : CallR X (.builtin "len") (rLenSet X.w) := by
  intro pins s σ H xs us Q I r h
  obtain ⟨a, S, n, ns, rfl, ha, hS, hl, q⟩ := h
  obtain ⟨u, rfl, ru⟩ : ∃ u, us = [u] ∧ u = Value.ref a := by
    cases r with
    | cons r1 rr => cases rr; exact ⟨_, rfl, r1⟩
  subst ru
  obtain ⟨R, _⟩ := I.hok a _ ha
  obtain ⟨o, es, ep, t, ho, hex, hd, _, hnd, hmem, _, hf, hn, _⟩ := (show SetR X.w s.heap a S n from R)
  have card : es.size = (sortU ns).length := by
    have e1 : (es.toList.map keyOf).length = es.size := by rw [List.length_map, Array.length_toList]
    rw [← e1]
    refine perm_len hnd ((sortU_lt ns).imp fun h => Int.ne_of_lt h) fun k => ?_
    rw [← hmem k, hS k, sortU_mem]
  have hle := sortU_le ns
  refine call_len_set ho hex hd hf (by omega) ?_
  rw [card]
  exact ⟨.int (sortU ns).length, H, I.tok _, ⟨_, rfl⟩, q⟩
def gLenSetM (ns : List Int) (h : MH) : Res Dv := if decide (ns.length < 64) = true then .ok (.int (sortU ns).length) h else .stuck
def fLenSet := oItems rdK (onInts gLenSetM)
theorem fLenSet_ne : ∀ ds h, NoErr (fLenSet ds h) := oItems_ne (onInts_ne fun ns h => by unfold gLenSetM; split <;> trivial)
theorem je_lenSet {e : Expr} {m : ME} {p p2 pos q2 : Pos} (hc : X.calm = true) (hg : Gl X "len") (hm : X.mg "len" = none) (hg2 : Gl X "set") (hm2 : X.mg "set" = none) (he : JE cl W X e m)
    (hst : starEach [e] X.env = (false, eval e X.env) :: starEach [] X.env := by rfl) (hpl : (backTo q2 (starEach [] X.env)).any (·.1) = false := by rfl)
    (hst2 : starEach [.Call (.Name "set" p2) [e] [] q2] X.env = (false, eval (.Call (.Name "set" p2) [e] [] q2) X.env) :: starEach [] X.env := by rfl) (hpl2 : (backTo pos (starEach [] X.env)).any (·.1) = false := by rfl) :
    JE cl W X (.Call (.Name "len" p) [.Call (.Name "set" p2) [e] [] q2] [] pos) (eOps fLenSet (aCons m aNil)) := by
  refine pe_imp (pe_callB call_lenSet hg hm bt_len (pa_cons (pe_callTy (call_setL hc) hg2 hm2 bt_set (pa_cons he pa_nil hst) (by decide) (by decide) hst hpl) pa_nil hst2) (by decide) (by decide) hst2 hpl2) fun σ H Q q => ?_
  have q' : tM X.K cl (RD X.K cl) W (fun τ h => (m τ h).bind fun d h1 => fLenSet [d] h1) σ H Q := by
    obtain ⟨τ, ρ, h, hr, er, pp⟩ := q
    refine ⟨τ, ρ, h, hr, er, ?_⟩
    have e1 : eOps fLenSet (aCons m aNil) τ h = (m τ h).bind fun d h1 => fLenSet [d] h1 := by
      unfold eOps aCons aNil
      cases m τ h <;> rfl
    rw [e1] at pp
    exact pp
  refine tM_bind (R1 := RD X.K cl) (f := fun _ d h1 => fLenSet [d] h1) q' fun τ ρ1 h1 H1 d v hr1 er1 r1 p1 => ?_
  have p1 : Post X.K cl (RD X.K cl) NoW σ ρ1 h1 H1 (fLenSet [d] h1) Q := Post.wish p1 (fLenSet_ne [d] h1)
  obtain ⟨d0, xs, e0, e1, p2⟩ := oItems_some p1
  cases e0
  obtain ⟨a, vs, rfl, sq, rs⟩ := rdK_rel hr1 r1 e1
  obtain ⟨ns, rfl, p3⟩ := onInts_some rs p2
  unfold gLenSetM at p3
  split at p3
  · rename_i hlen
    have hlen := of_decide_eq_true hlen
    refine ⟨a, ns, rfl, sq, by unfold scanBound; omega, fun p n hn hp => ?_⟩
    obtain ⟨n1, n2, n3⟩ := hr1.newV (o := SetO X.w p (fun j => decide (j ∈ ns)) n) hp
    exact ⟨p, _, n, ns, rfl, upd_same, fun k => by simp, by omega, p3 ρ1 _ _ n1 n2 (.int _)⟩
  · exact p3.elim
end
end L2.Mi

/-! MiSortM: sorted(xs) as a cell. -/
namespace L2.Mi
open PySem PySem.Spec PyProof.Rows
section
variable {X : Cx} {cl : Str → Option Addr} {W : WX}
/-- sorted(xs), a list that will change -/
def gSortedM (ns : List Int) (h : MH) : Res Dv := if decide (ns.length < 64) = true then .ok (.obj h.length) (h ++ [.lst ((sortI ns).map Dv.int)]) else .stuck
def fSortedM := oItems rdK (onInts gSortedM)
theorem call_sortedMM : CallM X cl (.builtin "sorted") fSortedM := by
  refine ⟨⟨_, cr_sorted, fun σ ρ h H ds xs Q hr rs p => ?_⟩, oItems_ne (onInts_ne fun ns h => by unfold gSortedM; split <;> trivial)⟩
  obtain ⟨d, ys, rfl, e, p⟩ := oItems_some p
  obtain ⟨v, rfl, rd⟩ := rs.one
  obtain ⟨a, vs, rfl, sq, rv⟩ := rdK_rel hr rd e
  obtain ⟨ns, rfl, p⟩ := onInts_some rv p
  unfold gSortedM at p
  split at p
  · rename_i hl
    refine ⟨a, ns, rfl, sq, of_decide_eq_true hl, fun ms q pm rs' hn => ?_⟩
    rw [sortI_one pm rs']
    exact new_lstM hr (RelDs.ints _) p q hn
  · exact p.elim
end
theorem fSortedM_of {h : MH} {d : Dv} {xs : List Int} (e : rdK h d = some (xs.map Dv.int)) (hn : xs.length < 64) : fSortedM [d] h = .ok (.obj h.length) (h ++ [.lst ((sortI xs).map Dv.int)]) := by
  refine (oItems_ints (g := gSortedM) e).trans ?_
  unfold gSortedM
  rw [if_pos (decide_eq_true hn)]
end L2.Mi

/-! MiRevM: xs[::-1] as a cell. -/
namespace L2.Mi
open PySem PySem.Spec PyProof.Rows
section
variable {X : Cx} {cl : Str → Option Addr} {W : WX}
def oRevM (d : Dv) (h : MH) : Res Dv := match rdK h d with
  | some xs => .ok (.obj h.length) (h ++ [.lst xs.reverse])
  | none => .stuck
theorem je_revM {e : Expr} {m : ME} {k : Nat} {p1 p2 p3 pos : Pos} (he : JE cl W X e m) : JE cl W X (.Subscript e (.Slice none none (some (.UnaryOp .USub (.Constant (.int 1) k p1) p2)) p3) pos) (eOp1 oRevM m) := by
  refine pe_imp (pe_revL he) fun σ H Q q => ?_
  refine tM_bind (R1 := RD X.K cl) (f := fun _ => oRevM) q fun τ ρ1 h1 H1 d v hr1 er1 r1 p1 => ?_
  unfold oRevM at p1
  split at p1
  · rename_i xs ex
    obtain ⟨a, vs, rfl, sq, rs⟩ := rdK_rel hr1 r1 ex
    exact ⟨a, vs, rfl, sq, new_lstM hr1 rs.reverse p1⟩
  · exact p1.elim
theorem oRevM_of {h : MH} {d : Dv} {xs : List Dv} (e : rdK h d = some xs) : oRevM d h = .ok (.obj h.length) (h ++ [.lst xs.reverse]) := by
  unfold oRevM
  rw [e]
end
end L2.Mi

/-! MiSortP: sorted(xs), xs pairs of ints. -/
namespace L2.Mi
open PySem PySem.Spec PyProof.Rows
def pairOf : Dv → Option (Int × Int)
  | .tup [.int i, .int j] => some (i, j)
  | _ => none
def pairsOf : List Dv → Option (List (Int × Int))
  | [] => some []
  | d :: ds => match pairOf d, pairsOf ds with
    | some p, some ps => some (p :: ps)
    | _, _ => none
def prE (p : Int × Int) : Dv := .tup [.int p.1, .int p.2]
theorem pairsOf_map : ∀ ps : List (Int × Int), pairsOf (ps.map prE) = some ps
  | [] => rfl
  | p :: ps => by
    rw [List.map_cons]
    unfold pairsOf
    rw [pairsOf_map ps]
    rfl
theorem pairOf_eq {d : Dv} {p : Int × Int} (e : pairOf d = some p) : d = prE p := by
  unfold pairOf at e
  split at e
  · cases e; rfl
  · cases e
theorem pairsOf_eq : ∀ {ds : List Dv} {ps : List (Int × Int)}, pairsOf ds = some ps → ds = ps.map prE
  | [], ps, e => by cases e; rfl
  | d :: ds, ps, e => by
    unfold pairsOf at e
    cases e1 : pairOf d with
    | none => rw [e1] at e; cases e
    | some p =>
      cases e2 : pairsOf ds with
      | none => rw [e1, e2] at e; cases e
      | some qs =>
        rw [e1, e2] at e
        cases e
        rw [pairOf_eq e1, pairsOf_eq e2]
        rfl
/-- p not behind q -/
def leP (p q : Int × Int) : Prop := p.1 < q.1 ∨ (p.1 = q.1 ∧ p.2 ≤ q.2)
instance (p q : Int × Int) : Decidable (leP p q) := by unfold leP; exact inferInstance
def sortP (ps : List (Int × Int)) : List (Int × Int) := ps.mergeSort fun p q => decide (leP p q)
theorem sortP_perm (ps : List (Int × Int)) : (sortP ps).Perm ps := List.mergeSort_perm ps _
theorem sortP_le (ps : List (Int × Int)) : (sortP ps).Pairwise leP := by
  have h := List.pairwise_mergeSort (le := fun p q : Int × Int => decide (leP p q)) (fun a b c h1 h2 => by have h1 := of_decide_eq_true h1; have h2 := of_decide_eq_true h2; refine decide_eq_true ?_; unfold leP at *; omega) (fun a b => by rw [Bool.or_eq_true, decide_eq_true_eq, decide_eq_true_eq]; unfold leP; omega) ps
  exact h.imp fun h => by simpa using h
theorem leP_anti {p q : Int × Int} (h1 : leP p q) (h2 : leP q p) : p = q := by
  unfold leP at h1 h2
  exact Prod.ext_iff.mpr ⟨by omega, by omega⟩
theorem sortP_one {ps qs : List (Int × Int)} (p : qs.Perm ps) (s : qs.Pairwise leP) : qs = sortP ps :=
  List.Perm.eq_of_pairwise (fun a b _ _ h1 h2 => leP_anti h1 h2) s (sortP_le ps) (p.trans (sortP_perm ps).symm)
theorem sortP_len (ps : List (Int × Int)) : (sortP ps).length = ps.length := (sortP_perm ps).length_eq
section
variable {X : Cx} {cl : Str → Option Addr}
def gSortP (ds : List Dv) (h : MH) : Res Dv := match pairsOf ds with
  | some ps => .ok (.lst ((sortP ps).map prE)) h
  | none => .stuck
def fSortP := oItems rdK gSortP
def kOf (H : Hp) : V → Int × Int
  | .ref t => match H t with
    | some (.tup [.int i, .int j]) => (i, j)
    | _ => (0, 0)
  | _ => (0, 0)
theorem prE_rel {K : PySem.W.Frag} {ρ : Rho} {h : MH} {H : Hp} {p : Int × Int} {v : V} (r : RelD K cl ρ h H (prE p) v) : (∃ t, v = .ref t ∧ H t = some (.tup [.int (kOf H v).1, .int (kOf H v).2])) ∧ kOf H v = p := by
  unfold prE at r
  cases r with
  | tup q rs =>
    cases rs with
    | cons r1 rs =>
      cases rs with
      | cons r2 rs =>
        cases rs
        cases r1
        cases r2
        rcases q with ⟨q, _⟩ | ⟨_, q⟩
        · rename_i a0 _
          have e : kOf H (.ref a0) = p := by
            show (match H a0 with
              | some (.tup [.int i, .int j]) => (i, j)
              | _ => (0, 0)) = p
            rw [q]
          exact ⟨⟨_, rfl, by rw [e]; exact q⟩, e⟩
        · cases q
theorem rels_pick {K : PySem.W.Frag} {ρ : Rho} {h : MH} {H : Hp} : ∀ {ps : List (Int × Int)} {vs : List V}, RelDs K cl ρ h H (ps.map prE) vs → (∀ v ∈ vs, RelD K cl ρ h H (prE (kOf H v)) v ∧ ∃ t, v = .ref t ∧ H t = some (.tup [.int (kOf H v).1, .int (kOf H v).2])) ∧ vs.map (kOf H) = ps
  | [], _, r => by cases r; exact ⟨fun _ h => (nomatch h), rfl⟩
  | p :: ps, _, r => by
    cases r with
    | cons r rs =>
      obtain ⟨h1, h2⟩ := rels_pick rs
      obtain ⟨e1, e2⟩ := prE_rel r
      refine ⟨fun v hv => ?_, by rw [List.map_cons, e2, h2]⟩
      rcases List.mem_cons.mp hv with rfl | hv
      · exact ⟨by rw [e2]; exact r, e1⟩
      · exact h1 v hv
theorem rels_of {K : PySem.W.Frag} {ρ : Rho} {h : MH} {H : Hp} : ∀ {vs : List V}, (∀ v ∈ vs, RelD K cl ρ h H (prE (kOf H v)) v) → RelDs K cl ρ h H ((vs.map (kOf H)).map prE) vs
  | [], _ => .nil
  | v :: vs, hv => .cons (hv v List.mem_cons_self) (rels_of fun x hx => hv x (List.mem_cons_of_mem _ hx))
theorem call_sortP : CallM X cl (.builtin "sorted") fSortP := by
  refine ⟨⟨_, cr_sortedPO, fun σ ρ h H ds xs Q hr rs p => ?_⟩, oItems_ne fun ds h => by unfold gSortP; split <;> trivial⟩
  obtain ⟨d, ys, rfl, e, p⟩ := oItems_some p
  obtain ⟨v, rfl, rd⟩ := rs.one
  obtain ⟨a, vs, rfl, sq, rv⟩ := rdK_rel hr rd e
  unfold gSortP at p
  cases ep : pairsOf ys with
  | none => rw [ep] at p; exact p.elim
  | some ps =>
    rw [ep] at p
    rw [pairsOf_eq ep] at rv
    obtain ⟨h1, h2⟩ := rels_pick rv
    refine ⟨a, vs, kOf H, rfl, sq, fun x hx => (h1 x hx).2, fun zs q hs hp hn => ?_⟩
    have e1 : zs.map (kOf H) = sortP ps := by
      refine sortP_one ?_ ?_
      · rw [← h2]
        exact hp.perm.map _
      · refine List.pairwise_map.mpr (hs.imp fun h => ?_)
        have := SrtO.lexB_no.mp h
        unfold leP
        omega
    have rz := rels_of (vs := zs) fun v hv => (h1 v (hp.perm.mem_iff.mp hv)).1
    rw [e1] at rz
    exact new_lst hr rz p q hn
theorem fSortP_of {h : MH} {d : Dv} {ps : List (Int × Int)} (e : rdK h d = some (ps.map prE)) : fSortP [d] h = .ok (.lst ((sortP ps).map prE)) h := by
  show (match rdK h d with
    | some xs => gSortP xs h
    | none => .stuck) = _
  rw [e]
  show gSortP _ h = _
  unfold gSortP
  rw [pairsOf_map]
end
end L2.Mi

/-! MiDisp: {(a, b): v}, one pair; {i: v}, one pair. -/
namespace L2
open PySem PySem.Spec PyProof.Rows
/-- a display of one pair, its key a tuple -/
def tDisp1T (tk tv : TE) : TE := fun σ H Q => ∀ D, H D = none → tk σ (upd H D (.dT [])) fun y H1 => tv σ H1 fun z H2 => ∃ (k : List Key) (b : Addr), y = .ref b ∧ H2 b = some (.tup (k.map kV)) ∧ H2 D = some (.dT []) ∧ Q (.ref D) (upd H2 D (.dT [(k, z)]))
theorem pe_disp1T {X : Cx} {pos : Pos} {kx vx : Expr} {tk tv : TE} (hu : X.A.units < cLine) (hk : PE X kx tk) (hv : PE X vx tv) : PE X (.Dict [some kx] [vx] pos) (tDisp1T tk tv) := by
  refine ⟨fun pins s σ H Q I q => ?_⟩
  have hn := I.hok.fresh (Nat.le_refl s.heap.objs.size)
  have I1 := I.laid (a := s.heap.objs.size) (o := .dT []) (h' := s.heap.push { cls := .type "dict", data := .dict #[] }) (t' := s.toks) (fun _ _ q => Heap.get?_push_of_some _ q) (Nat.le_refl _) (dt_empty s.heap I.big)
  have hlen := pairTrees_length [some kx] [vx] X.env pos rfl rfl
  have h0 : pairTrees [some kx] [vx] X.env pos ≠ [] := fun e => by rw [e] at hlen; cases hlen
  rw [arm_eval_Dict, zip_pairTrees [some kx] [vx] X.env pos rfl rfl, dictDisplay_pairs (pairTrees [some kx] [vx] X.env pos) h0 (by rw [hlen]; show 1 < 17; decide)]
  refine wpAny_bind (wpAny_standAt (wpAny_bind (wpAny_subDictH (knd := tupleKind (mixKind X.prog X.w)) hu (by rw [hlen]; show 1 ≤ 15; decide) ?_)))
  refine pairTrees_cons_walk (thn (hk.run pins _ σ _ _ I1 (q _ hn)) fun u s1 ⟨y, H1, I2, ry, q1⟩ => thn (hv.run pins s1 σ H1 _ I2 q1) fun w2 s2 ⟨z, H2, I3, rz, k, b, ey, eb, eD, q2⟩ => pairTrees_nil_walk ?_)
  subst ey
  obtain rfl : u = Value.ref b := ry
  obtain ⟨z0, hd, xs, rel, dd⟩ := dt_of I3.hok eD
  have hx : xs = [] := List.length_eq_zero_iff.mp (Paired.length rel).symm
  subst hx
  refine ⟨[(k, b, w2)], ⟨rfl, rfl, key_of I3.hok eb, trivial⟩, dd, fun h' tk dd' hs => wpAny_pure ?_⟩
  obtain ⟨o, es, ep, hq, h2, h3, h4, _, h5⟩ := dd'
  refine ⟨.ref s.heap.objs.size, upd H2 s.heap.objs.size (.dT (putK [] k z)), d_write (t' := tk) I3 (by rw [eD]; exact True.intro) hs ⟨o, hq⟩ ⟨by show 1 ≤ sizeLine; decide, hd, _, (rel.put k eb rz).keeps fun c ys ec => ?_, o, es, ep, hq, h2, h3, h4, h5⟩, rfl, q2⟩
  rw [upd_ne (ne_of ec eD (fun z => nomatch z))]
  exact ec
end L2
namespace L2.Mi
open PySem PySem.Spec PyProof.Rows
def eDisp1 (mk mv : ME) : ME := fun τ h => match mk τ h with
  | .ok kd h1 => (match mv τ h1 with
    | .ok y h2 => (match dkey kd with
      | some (.inr _) => .ok (.dct [.non, .tup [kd, y]]) h2
      | _ => .stuck)
    | _ => .stuck)
  | _ => .stuck
def eDisp1K (mk mv : ME) : ME := fun τ h => match mk τ h with
  | .ok kd h1 => (match mv τ h1 with
    | .ok y h2 => (match dkey kd with
      | some (.inl _) => .ok (.dct [.tup [kd, y]]) h2
      | _ => .stuck)
    | _ => .stuck)
  | _ => .stuck
section
variable {X : Cx} {cl : Str → Option Addr} {W : WX} {kx vx : Expr} {mk mv : ME} {pos : Pos}
theorem je_disp1 (hu : X.A.units < cLine) (hk : JE cl NoW X kx mk) (hv : JE cl NoW X vx mv) : JE cl W X (.Dict [some kx] [vx] pos) (eDisp1 mk mv) := by
  refine pe_imp (pe_disp1T hu hk hv) fun σ H Q q => ?_
  obtain ⟨τ, ρ, h, hr, er, p⟩ := q
  intro D hD
  obtain ⟨hrD, eD⟩ := hr.hideNew (o := .dT []) hD
  refine ⟨τ, ρ.hide D, h, hrD, er.mono eD, ?_⟩
  unfold eDisp1 at p
  cases ek : mk τ h with
  | err c xs h1 => simp only [ek] at p; exact p.elim
  | stuck => simp only [ek] at p; exact p.elim
  | ok kd h1 =>
    simp only [ek] at p
    intro ρ1 H1 y hr1 e1 r1
    refine ⟨τ, ρ1, h1, hr1, (er.mono eD).mono e1, ?_⟩
    cases ev : mv τ h1 with
    | err c xs h2 => simp only [ev] at p; exact p.elim
    | stuck => simp only [ev] at p; exact p.elim
    | ok vd h2 =>
      simp only [ev] at p
      intro ρ2 H2 z hr2 e2 r2
      split at p
      · rename_i l edk
        obtain ⟨hl0, b, ey, hb⟩ := dkey_inr (r1.mono e2) edk
        have hDl : D ∈ ρ2.hid ∧ H2 D = some (.dT []) := by
          have a1 := e1.hid D List.mem_cons_self
          have a2 := e2.hid D a1.1
          exact ⟨a2.1, a2.2.trans (a1.2.trans upd_same)⟩
        refine ⟨l, b, ey, hb, hDl.2, ?_⟩
        obtain ⟨w1, w2⟩ := hr2.hidW (o := .dT [(l, z)]) hDl.1
        have kt : keyT kd = some l := keyT_of edk
        refine mkV_ok.fin (acc := [.non, .tup [kd, vd]]) hr w1 (((eD.trans e1).trans e2).hidW hr hD) hDl.1 hD ⟨[kd], [vd], .inr ⟨rfl, [(l, z)], upd_same, by rw [List.map_cons, List.map_nil, kt]; rfl, .cons (RelD.mono0 w2.toExt0 r2) .nil⟩⟩ p
      · exact p.elim
theorem je_disp1K (hk : JE cl NoW X kx mk) (hv : JE cl NoW X vx mv) : JE cl W X (.Dict [some kx] [vx] pos) (eDisp1K mk mv) := by
  refine pe_imp (pe_disp (pps_cons hk hv pps_nil) rfl rfl (by simp) (by show 1 ≤ 15; decide)) fun σ H Q q => ?_
  obtain ⟨τ, ρ, h, hr, er, p⟩ := q
  intro D hD
  obtain ⟨hrD, eD⟩ := hr.hideNew (o := .dK []) hD
  refine ⟨τ, ρ.hide D, h, hrD, er.mono eD, ?_⟩
  unfold eDisp1K at p
  cases ek : mk τ h with
  | err c xs h1 => simp only [ek] at p; exact p.elim
  | stuck => simp only [ek] at p; exact p.elim
  | ok kd h1 =>
    simp only [ek] at p
    intro ρ1 H1 y hr1 e1 r1
    refine ⟨τ, ρ1, h1, hr1, (er.mono eD).mono e1, ?_⟩
    cases ev : mv τ h1 with
    | err c xs h2 => simp only [ev] at p; exact p.elim
    | stuck => simp only [ev] at p; exact p.elim
    | ok vd h2 =>
      simp only [ev] at p
      intro ρ2 H2 z hr2 e2 r2
      split at p
      · rename_i l edk
        have ey := dkey_inl (r1.mono e2) edk
        have hDl : D ∈ ρ2.hid ∧ H2 D = some (.dK []) := by
          have a1 := e1.hid D List.mem_cons_self
          have a2 := e2.hid D a1.1
          exact ⟨a2.1, a2.2.trans (a1.2.trans upd_same)⟩
        refine ⟨hDl.2, [(l, z)], by rw [ey]; rfl, by show 1 ≤ 15; decide, ?_⟩
        obtain ⟨w1, w2⟩ := hr2.hidW (o := .dK [(l, z)]) hDl.1
        have kk : keyKs [kd] = some [l] := by
          have := keyK_of edk
          unfold keyKs
          rw [this]
          rfl
        exact mkV_ok.fin (acc := [.tup [kd, vd]]) hr w1 (((eD.trans e1).trans e2).hidW hr hD) hDl.1 hD ⟨[kd], [vd], .inl ⟨rfl, [(l, z)], upd_same, kk, .cons (RelD.mono0 w2.toExt0 r2) .nil⟩⟩ p
      · exact p.elim
end
section
variable {τ : MEnv} {h : MH} {Q : Dv → MH → Prop} {E : QE} {mk mv : ME}
theorem wE_disp1 (w : wR (mk τ h) (fun kd h1 => wR (mv τ h1) (fun y h2 => (∃ l, dkey kd = some (.inr l)) ∧ Q (.dct [.non, .tup [kd, y]]) h2) nE) nE) : wR (eDisp1 mk mv τ h) Q E := by
  obtain ⟨kd, h1, e1, w⟩ := ex_of_wR w
  obtain ⟨y, h2, e2, ⟨l, e3⟩, q⟩ := ex_of_wR w
  unfold eDisp1
  simp only [e1, e2, e3]
  exact wR_ok q
theorem wE_disp1K (w : wR (mk τ h) (fun kd h1 => wR (mv τ h1) (fun y h2 => (∃ l, dkey kd = some (.inl l)) ∧ Q (.dct [.tup [kd, y]]) h2) nE) nE) : wR (eDisp1K mk mv τ h) Q E := by
  obtain ⟨kd, h1, e1, w⟩ := ex_of_wR w
  obtain ⟨y, h2, e2, ⟨l, e3⟩, q⟩ := ex_of_wR w
  unfold eDisp1K
  simp only [e1, e2, e3]
  exact wR_ok q
end
end L2.Mi

/-! MiDisp2: {(True, 0): v}; {(a, b): v, (c, d): w}. -/
namespace L2
open PySem PySem.Spec PyProof.Rows
/-- a display of two pairs, their keys tuples that differ -/
def tDisp2T (tk tv tk2 tv2 : TE) : TE := fun σ H Q => ∀ D, H D = none → tk σ (upd H D (.dT [])) fun y H1 => tv σ H1 fun z H2 => tk2 σ H2 fun y2 H3 => tv2 σ H3 fun z2 H4 =>
  ∃ (k k2 : List Key) (b b2 : Addr), y = .ref b ∧ H4 b = some (.tup (k.map kV)) ∧ y2 = .ref b2 ∧ H4 b2 = some (.tup (k2.map kV)) ∧ k ≠ k2 ∧ H4 D = some (.dT []) ∧ Q (.ref D) (upd H4 D (.dT [(k, z), (k2, z2)]))
theorem putK_two {k k2 : List Key} {z z2 : V} (h : k ≠ k2) : putK (putK [] k z) k2 z2 = [(k, z), (k2, z2)] := by
  simp [putK, h]
theorem pe_disp2T {X : Cx} {pos : Pos} {kx vx kx2 vx2 : Expr} {tk tv tk2 tv2 : TE} (hu : X.A.units < cLine) (hk : PE X kx tk) (hv : PE X vx tv) (hk2 : PE X kx2 tk2) (hv2 : PE X vx2 tv2) : PE X (.Dict [some kx, some kx2] [vx, vx2] pos) (tDisp2T tk tv tk2 tv2) := by
  refine ⟨fun pins s σ H Q I q => ?_⟩
  have hn := I.hok.fresh (Nat.le_refl s.heap.objs.size)
  have I1 := I.laid (a := s.heap.objs.size) (o := .dT []) (h' := s.heap.push { cls := .type "dict", data := .dict #[] }) (t' := s.toks) (fun _ _ q => Heap.get?_push_of_some _ q) (Nat.le_refl _) (dt_empty s.heap I.big)
  have hlen := pairTrees_length [some kx, some kx2] [vx, vx2] X.env pos rfl rfl
  have h0 : pairTrees [some kx, some kx2] [vx, vx2] X.env pos ≠ [] := fun e => by rw [e] at hlen; cases hlen
  rw [arm_eval_Dict, zip_pairTrees [some kx, some kx2] [vx, vx2] X.env pos rfl rfl, dictDisplay_pairs (pairTrees [some kx, some kx2] [vx, vx2] X.env pos) h0 (by rw [hlen]; show 2 < 17; decide)]
  refine wpAny_bind (wpAny_standAt (wpAny_bind (wpAny_subDictH (knd := tupleKind (mixKind X.prog X.w)) hu (by rw [hlen]; show 2 ≤ 15; decide) ?_)))
  refine pairTrees_cons_walk (thn (hk.run pins _ σ _ _ I1 (q _ hn)) fun u s1 ⟨y, H1, I2, ry, q1⟩ => thn (hv.run pins s1 σ H1 _ I2 q1) fun w2 s2 ⟨z, H2, I3, rz, q2⟩ => ?_)
  refine pairTrees_cons_walk (thn (hk2.run pins _ σ _ _ I3 q2) fun u2 s3 ⟨y2, H3, I4, ry2, q3⟩ => thn (hv2.run pins s3 σ H3 _ I4 q3) fun w4 s4 ⟨z2, H4, I5, rz2, k, k2, b, b2, ey, eb, ey2, eb2, hkk, eD, q4⟩ => pairTrees_nil_walk ?_)
  subst ey ey2
  obtain rfl : u = Value.ref b := ry
  obtain rfl : u2 = Value.ref b2 := ry2
  obtain ⟨z0, hd, xs, rel, dd⟩ := dt_of I5.hok eD
  have hx : xs = [] := List.length_eq_zero_iff.mp (Paired.length rel).symm
  subst hx
  refine ⟨[(k, b, w2), (k2, b2, w4)], ⟨rfl, rfl, key_of I5.hok eb, rfl, rfl, key_of I5.hok eb2, trivial⟩, dd, fun h' tk dd' hs => wpAny_pure ?_⟩
  obtain ⟨o, es, ep, hq, h2, h3, h4, _, h5⟩ := dd'
  have rel2 := ((rel.put k eb rz).put k2 eb2 rz2).keeps (H' := upd H4 s.heap.objs.size (.dT (putK (putK [] k z) k2 z2))) fun c ys ec => by
    rw [upd_ne (ne_of ec eD (fun z => nomatch z))]
    exact ec
  have new := d_write (t' := tk) I5 (by rw [eD]; exact True.intro) hs ⟨o, hq⟩ (show ObjOk X.prog X.w (upd H4 s.heap.objs.size (.dT (putK (putK [] k z) k2 z2))) h' s.heap.objs.size (.dT (putK (putK [] k z) k2 z2)) from ⟨by rw [putK_two hkk]; show 2 ≤ sizeLine; decide, hd, _, rel2, o, es, ep, hq, h2, h3, h4, h5⟩)
  rw [putK_two hkk] at new
  exact ⟨.ref s.heap.objs.size, _, new, rfl, q4⟩
end L2
namespace L2.Mi
open PySem PySem.Spec PyProof.Rows
def eDisp2 (mk mv mk2 mv2 : ME) : ME := fun τ h => match mk τ h with
  | .ok kd h1 => (match mv τ h1 with
    | .ok y h2 => (match mk2 τ h2 with
      | .ok kd2 h3 => (match mv2 τ h3 with
        | .ok y2 h4 => (match dkey kd, dkey kd2 with
          | some (.inr k), some (.inr k2) => if k = k2 then .stuck else .ok (.dct [.non, .tup [kd, y], .tup [kd2, y2]]) h4
          | _, _ => .stuck)
        | _ => .stuck)
      | _ => .stuck)
    | _ => .stuck)
  | _ => .stuck
section
variable {X : Cx} {cl : Str → Option Addr} {W : WX} {kx vx kx2 vx2 : Expr} {mk mv mk2 mv2 : ME} {pos : Pos}
theorem je_disp2 (hu : X.A.units < cLine) (hk : JE cl NoW X kx mk) (hv : JE cl NoW X vx mv) (hk2 : JE cl NoW X kx2 mk2) (hv2 : JE cl NoW X vx2 mv2) : JE cl W X (.Dict [some kx, some kx2] [vx, vx2] pos) (eDisp2 mk mv mk2 mv2) := by
  refine pe_imp (pe_disp2T hu hk hv hk2 hv2) fun σ H Q q => ?_
  obtain ⟨τ, ρ, h, hr, er, p⟩ := q
  intro D hD
  obtain ⟨hrD, eD⟩ := hr.hideNew (o := .dT []) hD
  refine ⟨τ, ρ.hide D, h, hrD, er.mono eD, ?_⟩
  unfold eDisp2 at p
  cases ek : mk τ h with
  | err c xs h1 => simp only [ek] at p; exact p.elim
  | stuck => simp only [ek] at p; exact p.elim
  | ok kd h1 =>
    simp only [ek] at p
    intro ρ1 H1 y hr1 e1 r1
    refine ⟨τ, ρ1, h1, hr1, (er.mono eD).mono e1, ?_⟩
    cases ev : mv τ h1 with
    | err c xs h2 => simp only [ev] at p; exact p.elim
    | stuck => simp only [ev] at p; exact p.elim
    | ok vd h2 =>
      simp only [ev] at p
      intro ρ2 H2 z hr2 e2 r2
      refine ⟨τ, ρ2, h2, hr2, ((er.mono eD).mono e1).mono e2, ?_⟩
      cases ek2 : mk2 τ h2 with
      | err c xs h3 => simp only [ek2] at p; exact p.elim
      | stuck => simp only [ek2] at p; exact p.elim
      | ok kd2 h3 =>
        simp only [ek2] at p
        intro ρ3 H3 y2 hr3 e3 r3
        refine ⟨τ, ρ3, h3, hr3, (((er.mono eD).mono e1).mono e2).mono e3, ?_⟩
        cases ev2 : mv2 τ h3 with
        | err c xs h4 => simp only [ev2] at p; exact p.elim
        | stuck => simp only [ev2] at p; exact p.elim
        | ok vd2 h4 =>
          simp only [ev2] at p
          intro ρ4 H4 z2 hr4 e4 r4
          split at p
          · rename_i l l2 edk edk2
            split at p
            · exact p.elim
            · rename_i hne
              obtain ⟨hl0, b, ey, hb⟩ := dkey_inr (((r1.mono e2).mono e3).mono e4) edk
              obtain ⟨hl02, b2, ey2, hb2⟩ := dkey_inr (r3.mono e4) edk2
              have hDl : D ∈ ρ4.hid ∧ H4 D = some (.dT []) := by
                have a1 := e1.hid D List.mem_cons_self
                have a2 := e2.hid D a1.1
                have a3 := e3.hid D a2.1
                have a4 := e4.hid D a3.1
                exact ⟨a4.1, a4.2.trans (a3.2.trans (a2.2.trans (a1.2.trans upd_same)))⟩
              refine ⟨l, l2, b, b2, ey, hb, ey2, hb2, hne, hDl.2, ?_⟩
              obtain ⟨w1, w2⟩ := hr4.hidW (o := .dT [(l, z), (l2, z2)]) hDl.1
              have kt : keyT kd = some l := keyT_of edk
              have kt2 : keyT kd2 = some l2 := keyT_of edk2
              refine mkV_ok.fin (acc := [.non, .tup [kd, vd], .tup [kd2, vd2]]) hr w1 (((((eD.trans e1).trans e2).trans e3).trans e4).hidW hr hD) hDl.1 hD ⟨[kd, kd2], [vd, vd2], .inr ⟨rfl, [(l, z), (l2, z2)], upd_same, by rw [List.map_cons, List.map_cons, List.map_nil, kt, kt2]; rfl, .cons (RelD.mono0 w2.toExt0 ((r2.mono e3).mono e4)) (.cons (RelD.mono0 w2.toExt0 r4) .nil)⟩⟩ p
          · exact p.elim
end
theorem wE_disp2 {τ : MEnv} {h : MH} {Q : Dv → MH → Prop} {E : QE} {mk mv mk2 mv2 : ME} (w : wR (mk τ h) (fun kd h1 => wR (mv τ h1) (fun y h2 => wR (mk2 τ h2) (fun kd2 h3 => wR (mv2 τ h3) (fun y2 h4 => (∃ l l2, dkey kd = some (.inr l) ∧ dkey kd2 = some (.inr l2) ∧ l ≠ l2) ∧ Q (.dct [.non, .tup [kd, y], .tup [kd2, y2]]) h4) nE) nE) nE) nE) : wR (eDisp2 mk mv mk2 mv2 τ h) Q E := by
  obtain ⟨kd, h1, e1, w⟩ := ex_of_wR w
  obtain ⟨y, h2, e2, w⟩ := ex_of_wR w
  obtain ⟨kd2, h3, e3, w⟩ := ex_of_wR w
  obtain ⟨y2, h4, e4, ⟨l, l2, k1, k2, hn⟩, q⟩ := ex_of_wR w
  unfold eDisp2
  simp only [e1, e2, e3, e4, k1, k2]
  rw [if_neg hn]
  exact wR_ok q
def isOddK : Dv → Bool
  | .tup [.bl true, .int 0] => true
  | _ => false
theorem isOddK_eq {d : Dv} (e : isOddK d = true) : d = oddK := by
  unfold isOddK at e
  split at e
  · rfl
  · cases e
def eDispO (mk mv : ME) : ME := fun τ h => match mk τ h with
  | .ok kd h1 => (match mv τ h1 with
    | .ok _ h2 => if isOddK kd = true then .ok .odd h2 else .stuck
    | _ => .stuck)
  | _ => .stuck
section
variable {X : Cx} {cl : Str → Option Addr} {W : WX} {kx vx : Expr} {mk mv : ME} {pos : Pos}
theorem je_dispO (hu : X.A.units < cLine) (hk : JE cl NoW X kx mk) (hv : JE cl NoW X vx mv) : JE cl W X (.Dict [some kx] [vx] pos) (eDispO mk mv) := by
  refine pe_imp (pe_dispO hu hk hv) fun σ H Q q => ?_
  obtain ⟨τ, ρ, h, hr, er, p⟩ := q
  intro D hD
  obtain ⟨hrD, eD⟩ := hr.hideNew (o := .dT []) hD
  refine ⟨τ, ρ.hide D, h, hrD, er.mono eD, ?_⟩
  unfold eDispO at p
  cases ek : mk τ h with
  | err c xs h1 => simp only [ek] at p; exact p.elim
  | stuck => simp only [ek] at p; exact p.elim
  | ok kd h1 =>
    simp only [ek] at p
    intro ρ1 H1 y hr1 e1 r1
    refine ⟨τ, ρ1, h1, hr1, (er.mono eD).mono e1, ?_⟩
    cases ev : mv τ h1 with
    | err c xs h2 => simp only [ev] at p; exact p.elim
    | stuck => simp only [ev] at p; exact p.elim
    | ok vd h2 =>
      simp only [ev] at p
      intro ρ2 H2 z hr2 e2 r2
      by_cases hodd : isOddK kd = true
      · rw [if_pos hodd] at p
        have := isOddK_eq hodd
        subst this
        have r1' := r1.mono e2
        cases r1' with
        | @tup b _ vs qq rs =>
          cases rs with
          | cons rs1 rs =>
            cases rs with
            | cons rs2 rs =>
              cases rs
              cases rs1
              cases rs2
              rcases qq with ⟨eb, nb⟩ | ⟨_, z0⟩
              · have hDl : D ∈ ρ2.hid ∧ H2 D = some (.dT []) := by
                  have a1 := e1.hid D List.mem_cons_self
                  have a2 := e2.hid D a1.1
                  exact ⟨a2.1, a2.2.trans (a1.2.trans upd_same)⟩
                refine ⟨b, rfl, eb, hDl.2, fun o od hs => ?_⟩
                obtain ⟨w1, w2⟩ := hr2.hidW (o := .ext (PinO D o)) hDl.1
                obtain ⟨u1, u2, u3⟩ := w1.unhide (((eD.trans e1).trans e2).hidW hr hD)
                have eb2 : upd H2 D (.ext (PinO D o)) b = some (.tup [.bl true, .int 0]) := by
                  rw [upd_ne (ne_of eb hDl.2 (fun z => nomatch z))]
                  exact eb
                exact p ⟨ρ2.map, ρ.hid⟩ _ (.ref D) u1 u3 (.odd upd_same (hid_gone hr w1 hDl.1 hD) hs od eb2 (tup_live0 u1 eb2))
              · cases z0
      · rw [if_neg hodd] at p
        exact p.elim
end
theorem wE_dispO {τ : MEnv} {h : MH} {Q : Dv → MH → Prop} {E : QE} {mk mv : ME} (w : wR (mk τ h) (fun kd h1 => wR (mv τ h1) (fun y h2 => isOddK kd = true ∧ Q .odd h2) nE) nE) : wR (eDispO mk mv τ h) Q E := by
  obtain ⟨kd, h1, e1, w⟩ := ex_of_wR w
  obtain ⟨y, h2, e2, e3, q⟩ := ex_of_wR w
  unfold eDispO
  simp only [e1, e2]
  rw [if_pos e3]
  exact wR_ok q
end L2.Mi

/-! MpTown: the laws' draws. -/
namespace L2.Mi.Lw
open PySem PySem.Spec PyProof.Rows
noncomputable def M__law_town : MF := fnM 1 1 (sRet (eOps oLstM (aCons (eIf (mTest (eOp2 oNe (eVar 0) (eOps oLst (aNil)))) (eOps fListM (aCons (eVar 0) (aNil))) (eOps oLstM (aCons (eC (.int 0)) (aNil)))) (aCons (eC (.int 0)) (aNil)))))
def pt__law_town_1 : List Plc := [.a 0]
def gD__law_town_1 : List Dv → List Dv → List Dv := fun ds zs => plc pt__law_town_1 ds [] [] zs
@[simp] theorem gE__law_town_1 (u0 : Dv) : gD__law_town_1 [u0] [] = [u0] := rfl
noncomputable def M__law_draw : MF := fnM 2 6 (sSeq (sSet 2 (eOp2 oIx (eVar 0) (eC (.int 0)))) (sSeq (sSetIx (eOp2 oAdd (eOp2 oIx (eVar 0) (eC (.int 1))) (eC (.int 1))) (eVar 0) (eC (.int 1)) oSetL) (sSeq (sSet 3 (eOp2 oMod (eOp2 oIx (eVar 0) (eC (.int 1))) (eOps fLen (aCons (eVar 2) (aNil))))) (sSeq (sSet 4 (eOp2 oIx (eVar 2) (eVar 3))) (sSeq (sIf (mTest (eOp2 oGe (eVar 4) (eC (.int 1000000000000000000)))) (sSeq (sSetIx (eOp2 oDiv (eVar 4) (eVar 1)) (eVar 2) (eVar 3) oSetL) (sRet (eOp2 oMod (eVar 4) (eVar 1)))) (sNil)) (sSeq (sSet 5 (eOp2 oMod (eOp2 oAdd (eVar 4) (eOp2 oMul (eC (.int 104729)) (eOp2 oIx (eVar 0) (eC (.int 1))))) (eC (.int 4294967291)))) (sSeq (sSet 5 (eOp2 oMod (eOp2 oPow (eVar 5) (eC (.int 5))) (eC (.int 4294967279)))) (sRet (eOp2 oMod (eOp2 oDiv (eOp2 oMod (eOp2 oAdd (eOp2 oMul (eOp2 oDiv (eVar 5) (eC (.int 64))) (eC (.int 69621))) (eVar 5)) (eC (.int 4294967231))) (eC (.int 8))) (eVar 1))))))))))
def pt__law_draw_2 : List Plc := [.a 0, .a 1]
def gD__law_draw_2 : List Dv → List Dv → List Dv := fun ds zs => plc pt__law_draw_2 ds [] [] zs
@[simp] theorem gE__law_draw_2 (u0 : Dv) (u1 : Dv) : gD__law_draw_2 [u0, u1] [] = [u0, u1] := rfl
noncomputable def M__law_pick : MF := fnM 2 2 (sRet (eOp2 oIx (eVar 1) (eCall 2 0 gD__law_draw_2 M__law_draw (aCons (eVar 0) (aCons (eOps fLen (aCons (eVar 1) (aNil))) (aNil))) (aNil))))
def pt__law_pick_2 : List Plc := [.a 0, .a 1]
def gD__law_pick_2 : List Dv → List Dv → List Dv := fun ds zs => plc pt__law_pick_2 ds [] [] zs
@[simp] theorem gE__law_pick_2 (u0 : Dv) (u1 : Dv) : gD__law_pick_2 [u0, u1] [] = [u0, u1] := rfl
noncomputable def M__law_whole : MF := fnM 1 1 (sRet (eAnd (eOp1 (oIsT "int") (eVar 0)) (eNot (eOp1 (oIsT "bool") (eVar 0)))))
def pt__law_whole_1 : List Plc := [.a 0]
def gD__law_whole_1 : List Dv → List Dv → List Dv := fun ds zs => plc pt__law_whole_1 ds [] [] zs
@[simp] theorem gE__law_whole_1 (u0 : Dv) : gD__law_whole_1 [u0] [] = [u0] := rfl
noncomputable def M__law_is : MF := fnM 2 2 (sRet (eAnd (eOp1 (oIsT "bool") (eVar 0)) (eOp2 oEq (eVar 0) (eVar 1))))
def pt__law_is_2 : List Plc := [.a 0, .a 1]
def gD__law_is_2 : List Dv → List Dv → List Dv := fun ds zs => plc pt__law_is_2 ds [] [] zs
@[simp] theorem gE__law_is_2 (u0 : Dv) (u1 : Dv) : gD__law_is_2 [u0, u1] [] = [u0, u1] := rfl
noncomputable def M__law_whole_list : MF := fnM 1 2 (sRet (eAnd (eOp1 (oIsT "list") (eVar 0)) (eOps fAll (aCons (eLc (iVal (eVar 0)) (mgName 1) (mYes) (eCall 1 0 gD__law_whole_1 M__law_whole (aCons (eVar 1) (aNil)) (aNil)) [1]) (aNil)))))
def pt__law_whole_list_1 : List Plc := [.a 0]
def gD__law_whole_list_1 : List Dv → List Dv → List Dv := fun ds zs => plc pt__law_whole_list_1 ds [] [] zs
@[simp] theorem gE__law_whole_list_1 (u0 : Dv) : gD__law_whole_list_1 [u0] [] = [u0] := rfl
noncomputable def M__law_number : MF := fnM 1 3 (sSeq (sSet 1 (eCall 2 0 gD__law_pick_2 M__law_pick (aCons (eVar 0) (aCons (eOps oLst (aCons (eC (.int 3)) (aCons (eC (.int 30)) (aCons (eC (.int 1000)) (aCons (eC (.int 1000001)) (aNil)))))) (aNil))) (aNil))) (sSeq (sSet 2 (eCall 2 0 gD__law_draw_2 M__law_draw (aCons (eVar 0) (aCons (eVar 1) (aNil))) (aNil))) (sRet (eIf (mTest (eOp2 oEq (eCall 2 0 gD__law_draw_2 M__law_draw (aCons (eVar 0) (aCons (eC (.int 2)) (aNil))) (aNil)) (eC (.int 0)))) (eVar 2) (eOp2 oSub (eC (.int 0)) (eVar 2))))))
def pt__law_number_1 : List Plc := [.a 0]
def gD__law_number_1 : List Dv → List Dv → List Dv := fun ds zs => plc pt__law_number_1 ds [] [] zs
@[simp] theorem gE__law_number_1 (u0 : Dv) : gD__law_number_1 [u0] [] = [u0] := rfl
local macro_rules | `(tactic| wtm_at "mi") => `(tactic| first
  | (with_reducible apply wS_seq) | (with_reducible apply wS_set) | (with_reducible apply wS_if) | (with_reducible apply wS_ret) | (with_reducible apply wS_retF) | (with_reducible apply wS_expr) | (with_reducible apply wS_setix) | (with_reducible apply wS_nil) | (with_reducible apply wS_raise) | (with_reducible apply wS_asg) | (with_reducible apply wS_par)
  | ((with_reducible refine' wE_var ?e ?_); (case e => exact rfl)) | (with_reducible apply wE_c) | (with_reducible apply wE_op2) | (with_reducible apply wE_op1) | (with_reducible apply wE_ops) | (with_reducible apply wE_call) | (with_reducible apply wA_cons) | (with_reducible apply wA_nil)
  | (with_reducible apply wE_and) | (with_reducible apply wE_or) | (with_reducible apply wE_not) | (with_reducible apply wE_if) | (with_reducible apply wT_test) | (with_reducible apply wE_chain) | (with_reducible apply wE_sl) | (with_reducible apply wO_none) | (with_reducible apply wO_some)
  | (with_reducible apply wT_and) | (with_reducible apply wT_or) | (with_reducible apply wT_not) | (with_reducible apply wT_yes) | (with_reducible apply wE_mth) | (with_reducible apply wS_for) | (with_reducible apply wI_val) | (with_reducible apply wI_range1) | (with_reducible apply wI_range2) | (with_reducible apply wE_lc)
  | (with_reducible apply wV_add) | (with_reducible apply wV_sub) | (with_reducible apply wV_neg) | (with_reducible apply wV_lt) | (with_reducible apply wV_le) | (with_reducible apply wV_gt) | (with_reducible apply wV_ge) | (with_reducible apply wV_eq) | (with_reducible apply wV_ne)
  | ((with_reducible refine' wV_mul ?c ?_); (case c => omega)) | ((with_reducible refine' wV_mod ?c ?_); (case c => omega)) | ((with_reducible refine' wV_div ?c ?_); (case c => omega)) | ((with_reducible refine' wV_pow ?c ?_); (case c => omega))
  | (with_reducible apply wE_fld) | (with_reducible apply wS_fld) | (with_reducible apply wE_make) | (with_reducible apply wE_obj) | (with_reducible apply wS_try) | (with_reducible apply wE_mthR) | (with_reducible apply wE_dct0) | ((with_reducible refine' wE_isE ?c ?_); (case c => decide)) | (with_reducible apply wV_isNon) | (with_reducible apply wV_isNotNon)
  | (with_reducible refine ⟨_, rfl, ?_⟩) | (dsimp only [List.set_cons_zero, List.set_cons_succ]))
/-- the town: its cells, how many draws there were -/
structure Tw where
  row : List Int
  k : Int
  ne : row ≠ []
def T (t : Tw) (rest : MH) : MH := .lst (t.row.map .int) :: .lst [.obj 0, .int t.k] :: rest
theorem mods_lt {a m : Int} (h : 0 < m) : 0 ≤ a % m ∧ a % m < m := ⟨Int.emod_nonneg _ (by omega), Int.emod_lt_of_pos _ h⟩
theorem get_ints {xs : List Int} {k : Int} (h1 : 0 ≤ k) (h2 : k < xs.length) : ∃ v, (xs.map Dv.int)[k.toNat]? = some (.int v) ∧ v ∈ xs := by
  have hl : k.toNat < xs.length := by omega
  exact ⟨xs[k.toNat], by simp [hl], List.getElem_mem hl⟩
theorem set_ints {xs : List Int} (k : Nat) (v : Int) : (xs.map Dv.int).set k (.int v) = (xs.set k v).map Dv.int := by rw [List.map_set]
theorem draw_wp {t : Tw} {rest : MH} {many : Int} {Q : Dv → MH → Prop} {E : QE} (h1 : 0 < many) (h2 : many < 1073741824) (q : ∀ v t', 0 ≤ v → v < many → Q (.int v) (T t' rest)) : wR (M__law_draw [.obj 1, .int many] (T t rest)) Q E := by
  have hl : 0 < (t.row.length : Int) := by have := List.length_pos_iff.mpr t.ne; omega
  unfold M__law_draw
  refine wF rfl ?_
  simp only [List.map_cons, List.map_nil, List.replicate_succ, List.replicate_zero, List.cons_append, List.nil_append, Nat.reduceSub]
  repeat' wtm_at "mi"
  refine wR_of (a := .obj 0) rfl ?_
  repeat' wtm_at "mi"
  refine wR_of (a := .int t.k) rfl ?_
  repeat' wtm_at "mi"
  refine wX (T ⟨t.row, t.k + 1, t.ne⟩ rest) rfl ?_
  repeat' wtm_at "mi"
  refine wR_of (a := .int (t.k + 1)) rfl ?_
  repeat' wtm_at "mi"
  refine wR_of (fLen_of (xs := t.row.map .int) rfl) ?_
  rw [List.length_map]
  repeat' wtm_at "mi"
  generalize hat : (t.k + 1) % (t.row.length : Int) = at_
  have hm : 0 ≤ at_ ∧ at_ < t.row.length := by subst hat; exact mods_lt hl
  obtain ⟨c, hc, _⟩ := get_ints hm.1 hm.2
  refine wV_ix (xs := t.row.map .int) rfl hm.1 hc ?_
  repeat' wtm_at "mi"
  refine ⟨fun _ => ?_, fun _ => ?_⟩
  · repeat' wtm_at "mi"
    refine wX (T ⟨t.row.set at_.toNat (c / many), t.k + 1, by simpa using t.ne⟩ rest) ?_ ?_
    · show (ixN (t.row.map Dv.int).length at_).map (fun j => (T ⟨t.row, t.k + 1, t.ne⟩ rest).set 0 (.lst ((t.row.map Dv.int).set j (.int (c / many))))) = _
      have : ixN (t.row.map Dv.int).length at_ = some at_.toNat := by
        unfold ixN
        rw [if_pos hm.1, if_pos (by simpa using hm.2)]
      rw [this]
      simp only [Option.map_some, T, List.set_cons_zero, set_ints]
    · repeat' wtm_at "mi"
      exact q _ _ (mods_lt h1).1 (mods_lt h1).2
  · repeat' wtm_at "mi"
    refine wR_of (a := .int (t.k + 1)) rfl ?_
    repeat' wtm_at "mi"
    generalize hm1 : (c + 104729 * (t.k + 1)) % 4294967291 = m1
    have h3 : 0 ≤ m1 ∧ m1 < 4294967291 := by subst hm1; exact mods_lt (by decide)
    repeat' wtm_at "mi"
    generalize hm2 : m1 ^ (5 : Int).toNat % 4294967279 = m2
    have h4 : 0 ≤ m2 ∧ m2 < 4294967279 := by subst hm2; exact mods_lt (by decide)
    repeat' wtm_at "mi"
    refine q _ _ (mods_lt h1).1 (mods_lt h1).2
/-- where the town stands there is no more to be said of it -/
theorem town_wp {ns : List Int} {Q : Dv → MH → Prop} {E : QE} (q : ∀ t, Q (.obj 1) (T t [])) : wR (M__law_town [.kls (ns.map .int)] []) Q E := by
  unfold M__law_town
  refine wF rfl ?_
  simp only [List.map_cons, List.map_nil, List.replicate_succ, List.replicate_zero, List.cons_append, List.nil_append, Nat.reduceSub]
  repeat' wtm_at "mi"
  refine wR_of (a := .lst []) rfl ?_
  refine wR_of (oNe_ints (xs := ns) (ys := []) rfl rfl) ?_
  repeat' wtm_at "mi"
  refine ⟨fun hc => ?_, fun hc => ?_⟩
  · have hn : ns ≠ [] := by simpa using hc
    repeat' wtm_at "mi"
    refine wR_of (fListM_of (xs := ns.map .int) rfl) ?_
    repeat' wtm_at "mi"
    refine wR_of (a := .obj 1) rfl ?_
    exact q ⟨ns, 0, hn⟩
  · repeat' wtm_at "mi"
    refine wR_of (a := .obj 0) rfl ?_
    repeat' wtm_at "mi"
    refine wR_of (a := .obj 1) rfl ?_
    exact q ⟨[0], 0, by simp⟩
theorem pick_wp {t : Tw} {rest : MH} {d : Dv} {xs : List Dv} {Q : Dv → MH → Prop} {E : QE} (hx : rdS (T t rest) d = some xs) (hx' : ∀ t', rdS (T t' rest) d = some xs) (h1 : xs ≠ []) (h2 : xs.length < 1073741824)
    (q : ∀ x t', x ∈ xs → Q x (T t' rest)) : wR (M__law_pick [.obj 1, d] (T t rest)) Q E := by
  have hl : 0 < xs.length := List.length_pos_iff.mpr h1
  unfold M__law_pick
  refine wF rfl ?_
  simp only [List.map_cons, List.map_nil, List.replicate_succ, List.replicate_zero, List.cons_append, List.nil_append, Nat.reduceSub]
  repeat' wtm_at "mi"
  have hA : rdA (T t rest) d = some xs := by
    cases d with
    | tup ys => exact hx
    | lst ys => exact hx
    | obj i => exact hx
    | _ => cases hx
  refine wR_of (fLen_of hA) ?_
  repeat' wtm_at "mi"
  refine ⟨⟨rfl, rfl⟩, ?_⟩
  show wR (M__law_draw [.obj 1, .int (xs.length : Int)] (T t rest)) _ _
  refine draw_wp (by omega) (by omega) fun v t' h3 h4 => ?_
  refine wV_ix (xs := xs) (x := xs[v.toNat]'(by omega)) (hx' t') h3 (by simp) ?_
  exact q _ _ (List.getElem_mem _)
/-- a pick out of a list that is written -/
theorem pickL_wp {t : Tw} {rest : MH} {xs : List Dv} {Q : Dv → MH → Prop} {E : QE} (h1 : xs ≠ []) (h2 : xs.length < 1073741824)
    (q : ∀ x t', x ∈ xs → Q x (T t' rest)) : wR (M__law_pick [.obj 1, .lst xs] (T t rest)) Q E := pick_wp rfl (fun _ => rfl) h1 h2 q
theorem number_wp {t : Tw} {rest : MH} {Q : Dv → MH → Prop} {E : QE} (q : ∀ v t', -1000000 ≤ v → v ≤ 1000000 → Q (.int v) (T t' rest)) : wR (M__law_number [.obj 1] (T t rest)) Q E := by
  unfold M__law_number
  refine wF rfl ?_
  simp only [List.map_cons, List.map_nil, List.replicate_succ, List.replicate_zero, List.cons_append, List.nil_append, Nat.reduceSub]
  repeat' wtm_at "mi"
  refine wR_of (a := .lst [.int 3, .int 30, .int 1000, .int 1000001]) rfl ?_
  repeat' wtm_at "mi"
  refine ⟨⟨rfl, rfl⟩, ?_⟩
  refine pickL_wp (by simp) (by decide) fun x t1 hx => ?_
  obtain ⟨m, rfl, hm⟩ : ∃ m, x = .int m ∧ 1 ≤ m ∧ m ≤ 1000001 := by
    simp only [List.mem_cons, List.not_mem_nil, or_false] at hx
    rcases hx with rfl | rfl | rfl | rfl <;> exact ⟨_, rfl, by decide, by decide⟩
  repeat' wtm_at "mi"
  refine ⟨⟨rfl, rfl⟩, ?_⟩
  refine draw_wp (by omega) (by omega) fun v t2 h3 h4 => ?_
  repeat' wtm_at "mi"
  refine ⟨⟨rfl, rfl⟩, ?_⟩
  refine draw_wp (by decide) (by decide) fun u t3 h5 h6 => ?_
  repeat' wtm_at "mi"
  refine ⟨fun _ => ?_, fun _ => ?_⟩
  · repeat' wtm_at "mi"
    exact q _ _ (by omega) (by omega)
  · repeat' wtm_at "mi"
    exact q _ _ (by omega) (by omega)
end L2.Mi.Lw

/-! MpWorths: liarclocks.errors, liarclocks.worths. -/
namespace L2.Mi.Lw
open PySem PySem.Spec PyProof.Rows
noncomputable def M_is_whole : MF := fnM 3 3 (sRet (eAnd (eOp1 (oIsT "int") (eVar 0)) (eAnd (eNot (eOp1 (oIsT "bool") (eVar 0))) (eChain oLe oLe (eVar 1) (eVar 0) (eVar 2)))))
def pt_is_whole_3 : List Plc := [.a 0, .a 1, .a 2]
def gD_is_whole_3 : List Dv → List Dv → List Dv := fun ds zs => plc pt_is_whole_3 ds [] [] zs
@[simp] theorem gE_is_whole_3 (u0 : Dv) (u1 : Dv) (u2 : Dv) : gD_is_whole_3 [u0, u1, u2] [] = [u0, u1, u2] := rfl
noncomputable def M_look_number : MF := fnM 3 3 (sIf (mNot (mTest (eCall 3 0 gD_is_whole_3 M_is_whole (aCons (eVar 0) (aCons (eVar 1) (aCons (eVar 2) (aNil)))) (aNil)))) (sRaise "BadNumber") (sNil))
def pt_look_number_3 : List Plc := [.a 0, .a 1, .a 2]
def gD_look_number_3 : List Dv → List Dv → List Dv := fun ds zs => plc pt_look_number_3 ds [] [] zs
@[simp] theorem gE_look_number_3 (u0 : Dv) (u1 : Dv) (u2 : Dv) : gD_look_number_3 [u0, u1, u2] [] = [u0, u1, u2] := rfl
noncomputable def M_look_worths : MF := fnM 2 4 (sSeq (sSet 2 (eAnd (eOp1 (oIsT "list") (eVar 0)) (eChain oLe oLe (eVar 1) (eOps fLen (aCons (eVar 0) (aNil))) (eC (.int 40))))) (sIf (mOr (mNot (mTest (eVar 2))) (mNot (mTest (eOps fAll (aCons (eLc (iVal (eVar 0)) (mgName 3) (mYes) (eCall 3 0 gD_is_whole_3 M_is_whole (aCons (eVar 3) (aCons (eOp1 oNeg (eC (.int 1000000))) (aCons (eC (.int 1000000)) (aNil)))) (aNil)) [3]) (aNil)))))) (sRaise "BadWorths") (sNil)))
def pt_look_worths_1 : List Plc := [.a 0, .m 0]
def gD_look_worths_1 : List Dv → List Dv → List Dv := fun ds zs => plc pt_look_worths_1 ds [] [.int 1] zs
@[simp] theorem gE_look_worths_1 (u0 : Dv) : gD_look_worths_1 [u0] [] = [u0, (.int 1)] := rfl
noncomputable def M_left_of : MF := fnM 2 2 (sRet (eSl (eOps fSorted (aCons (eVar 0) (aNil))) (mPart (eVar 1)) (mPart (eOp2 oSub (eOps fLen (aCons (eVar 0) (aNil))) (eVar 1)))))
def pt_left_of_2 : List Plc := [.a 0, .a 1]
def gD_left_of_2 : List Dv → List Dv → List Dv := fun ds zs => plc pt_left_of_2 ds [] [] zs
@[simp] theorem gE_left_of_2 (u0 : Dv) (u1 : Dv) : gD_left_of_2 [u0, u1] [] = [u0, u1] := rfl
noncomputable def M_middle_of : MF := fnM 2 3 (sSeq (sSet 2 (eCall 2 0 gD_left_of_2 M_left_of (aCons (eVar 0) (aCons (eVar 1) (aNil))) (aNil))) (sRet (eOp2 oDiv (eOp2 oAdd (eOp2 oIx (eVar 2) (eC (.int 0))) (eOp2 oIx (eVar 2) (eOp1 oNeg (eC (.int 1))))) (eC (.int 2)))))
def pt_middle_of_2 : List Plc := [.a 0, .a 1]
def gD_middle_of_2 : List Dv → List Dv → List Dv := fun ds zs => plc pt_middle_of_2 ds [] [] zs
@[simp] theorem gE_middle_of_2 (u0 : Dv) (u1 : Dv) : gD_middle_of_2 [u0, u1] [] = [u0, u1] := rfl
noncomputable def M_trimmed : MF := fnM 2 2 (sSeq (sExpr (eCall 3 0 gD_look_number_3 M_look_number (aCons (eVar 1) (aCons (eC (.int 0)) (aCons (eC (.int 5)) (aNil)))) (aNil))) (sSeq (sExpr (eCall 1 0 gD_look_worths_1 M_look_worths (aCons (eVar 0) (aNil)) (aNil))) (sSeq (sIf (mTest (eOp2 oLe (eOps fLen (aCons (eVar 0) (aNil))) (eOp2 oMul (eC (.int 2)) (eVar 1)))) (sRaise "BadWorths") (sNil)) (sRet (eCall 2 0 gD_left_of_2 M_left_of (aCons (eVar 0) (aCons (eVar 1) (aNil))) (aNil))))))
def pt_trimmed_1_few : List Plc := [.a 0, .k 0]
def gD_trimmed_1_few : List Dv → List Dv → List Dv := fun ds zs => plc pt_trimmed_1_few ds [] [] zs
@[simp] theorem gE_trimmed_1_few (u0 : Dv) (w0 : Dv) : gD_trimmed_1_few [u0] [w0] = [u0, w0] := rfl
noncomputable def M_middle : MF := fnM 2 2 (sSeq (sExpr (eCall 1 1 gD_trimmed_1_few M_trimmed (aCons (eVar 0) (aNil)) (aCons (eVar 1) (aNil)))) (sRet (eCall 2 0 gD_middle_of_2 M_middle_of (aCons (eVar 0) (aCons (eVar 1) (aNil))) (aNil))))
def pt_middle_1_few : List Plc := [.a 0, .k 0]
def gD_middle_1_few : List Dv → List Dv → List Dv := fun ds zs => plc pt_middle_1_few ds [] [] zs
@[simp] theorem gE_middle_1_few (u0 : Dv) (w0 : Dv) : gD_middle_1_few [u0] [w0] = [u0, w0] := rfl
noncomputable def M_mean : MF := fnM 2 3 (sSeq (sSet 2 (eCall 1 1 gD_trimmed_1_few M_trimmed (aCons (eVar 0) (aNil)) (aCons (eVar 1) (aNil)))) (sRet (eOp2 oDiv (eOps fSum (aCons (eVar 2) (aNil))) (eOps fLen (aCons (eVar 2) (aNil))))))
def pt_mean_1_few : List Plc := [.a 0, .k 0]
def gD_mean_1_few : List Dv → List Dv → List Dv := fun ds zs => plc pt_mean_1_few ds [] [] zs
@[simp] theorem gE_mean_1_few (u0 : Dv) (w0 : Dv) : gD_mean_1_few [u0] [w0] = [u0, w0] := rfl
noncomputable def M_median : MF := fnM 1 1 (sSeq (sExpr (eCall 1 0 gD_look_worths_1 M_look_worths (aCons (eVar 0) (aNil)) (aNil))) (sRet (eOp2 oIx (eOps fSorted (aCons (eVar 0) (aNil))) (eOp2 oDiv (eOp2 oSub (eOps fLen (aCons (eVar 0) (aNil))) (eC (.int 1))) (eC (.int 2))))))
def pt_median_1 : List Plc := [.a 0]
def gD_median_1 : List Dv → List Dv → List Dv := fun ds zs => plc pt_median_1 ds [] [] zs
@[simp] theorem gE_median_1 (u0 : Dv) : gD_median_1 [u0] [] = [u0] := rfl
noncomputable def M_spread : MF := fnM 1 1 (sSeq (sExpr (eCall 1 0 gD_look_worths_1 M_look_worths (aCons (eVar 0) (aNil)) (aNil))) (sRet (eOp2 oSub (eOps fMax (aCons (eVar 0) (aNil))) (eOps fMin (aCons (eVar 0) (aNil))))))
def pt_spread_1 : List Plc := [.a 0]
def gD_spread_1 : List Dv → List Dv → List Dv := fun ds zs => plc pt_spread_1 ds [] [] zs
@[simp] theorem gE_spread_1 (u0 : Dv) : gD_spread_1 [u0] [] = [u0] := rfl
noncomputable def M_is_between : MF := fnM 2 2 (sSeq (sExpr (eCall 1 0 gD_look_worths_1 M_look_worths (aCons (eVar 1) (aNil)) (aNil))) (sRet (eChain oLe oLe (eOps fMin (aCons (eVar 1) (aNil))) (eVar 0) (eOps fMax (aCons (eVar 1) (aNil))))))
def pt_is_between_2 : List Plc := [.a 0, .a 1]
def gD_is_between_2 : List Dv → List Dv → List Dv := fun ds zs => plc pt_is_between_2 ds [] [] zs
@[simp] theorem gE_is_between_2 (u0 : Dv) (u1 : Dv) : gD_is_between_2 [u0, u1] [] = [u0, u1] := rfl
local macro_rules | `(tactic| wtm_at "mi") => `(tactic| first
  | (with_reducible apply wS_seq) | (with_reducible apply wS_set) | (with_reducible apply wS_if) | (with_reducible apply wS_ret) | (with_reducible apply wS_retF) | (with_reducible apply wS_expr) | (with_reducible apply wS_setix) | (with_reducible apply wS_nil) | (with_reducible apply wS_raise) | (with_reducible apply wS_asg) | (with_reducible apply wS_par)
  | ((with_reducible refine' wE_var ?e ?_); (case e => exact rfl)) | (with_reducible apply wE_c) | (with_reducible apply wE_op2) | (with_reducible apply wE_op1) | (with_reducible apply wE_ops) | (with_reducible apply wE_call) | (with_reducible apply wA_cons) | (with_reducible apply wA_nil)
  | (with_reducible apply wE_and) | (with_reducible apply wE_or) | (with_reducible apply wE_not) | (with_reducible apply wE_if) | (with_reducible apply wT_test) | (with_reducible apply wE_chain) | (with_reducible apply wE_sl) | (with_reducible apply wO_none) | (with_reducible apply wO_some)
  | (with_reducible apply wT_and) | (with_reducible apply wT_or) | (with_reducible apply wT_not) | (with_reducible apply wT_yes) | (with_reducible apply wE_mth) | (with_reducible apply wS_for) | (with_reducible apply wI_val) | (with_reducible apply wI_range1) | (with_reducible apply wI_range2) | (with_reducible apply wE_lc)
  | (with_reducible apply wV_add) | (with_reducible apply wV_sub) | (with_reducible apply wV_neg) | (with_reducible apply wV_lt) | (with_reducible apply wV_le) | (with_reducible apply wV_gt) | (with_reducible apply wV_ge) | (with_reducible apply wV_eq) | (with_reducible apply wV_ne)
  | ((with_reducible refine' wV_mul ?c ?_); (case c => omega)) | ((with_reducible refine' wV_mod ?c ?_); (case c => omega)) | ((with_reducible refine' wV_div ?c ?_); (case c => omega)) | ((with_reducible refine' wV_pow ?c ?_); (case c => omega))
  | (with_reducible apply wE_fld) | (with_reducible apply wS_fld) | (with_reducible apply wE_make) | (with_reducible apply wE_obj) | (with_reducible apply wS_try) | (with_reducible apply wE_mthR) | (with_reducible apply wE_dct0) | ((with_reducible refine' wE_isE ?c ?_); (case c => decide)) | (with_reducible apply wV_isNon) | (with_reducible apply wV_isNotNon)
  | (with_reducible refine ⟨_, rfl, ?_⟩) | (dsimp only [List.set_cons_zero, List.set_cons_succ]))
/-! ### looks -/
theorem isT_of {h : MH} {d : Dv} {a T : String} (e : tyN h d = some a) : oIsT T d h = .ok (.bl (subTy a T)) h := by unfold oIsT; rw [e]
def isWh (lo hi : Int) : Dv → Bool
  | .int i => decide (lo ≤ i) && decide (i ≤ hi)
  | _ => false
def tyd (h : MH) (d : Dv) : Prop := (tyN h d).isSome = true
theorem is_whole_eq {h : MH} {d : Dv} {lo hi : Int} (ht : tyd h d) : M_is_whole [d, .int lo, .int hi] h = .ok (.bl (isWh lo hi d)) h := by
  apply eq_of_wR
  unfold M_is_whole
  refine wF rfl ?_
  simp only [List.map_cons, List.map_nil, List.replicate_succ, List.replicate_zero, List.cons_append, List.nil_append, Nat.reduceSub]
  repeat' wtm_at "mi"
  obtain ⟨a, ha⟩ := Option.isSome_iff_exists.mp ht
  refine wR_of (isT_of ha) ?_
  repeat' wtm_at "mi"
  refine ⟨fun h1 => ?_, fun h1 => ?_⟩
  · repeat' wtm_at "mi"
    refine wR_of (isT_of ha) ?_
    repeat' wtm_at "mi"
    refine ⟨fun h2 => ?_, fun h2 => ?_⟩
    · have hi : ∃ i, d = .int i := by
        cases d with
        | int i => exact ⟨i, rfl⟩
        | obj j =>
          have ha' : (match h[j]? with
            | some (.lst _) => some "list"
            | some (.dct _) => some "dict"
            | _ => none) = some a := ha
          split at ha' <;> cases ha' <;> (unfold subTy at h1; exact absurd h1 (by decide))
        | bl b => cases ha; exact absurd h2 (by decide)
        | exc _ _ => cases ha
        | _ => cases ha; exact absurd h1 (by decide)
      obtain ⟨i, rfl⟩ := hi
      repeat' wtm_at "mi"
      refine ⟨fun h3 => ?_, fun h3 => ?_⟩
      · repeat' wtm_at "mi"
        exact ⟨by show Dv.bl _ = Dv.bl (decide (lo ≤ i) && decide (i ≤ hi)); rw [h3]; rfl, rfl⟩
      · exact ⟨by show Dv.bl _ = Dv.bl (decide (lo ≤ i) && decide (i ≤ hi)); rw [h3]; rfl, rfl⟩
    · refine ⟨?_, rfl⟩
      cases d with
      | int i => cases ha; exact absurd h2 (by decide)
      | _ => rfl
  · refine ⟨?_, rfl⟩
    cases d with
    | int i => cases ha; exact absurd h1 (by decide)
    | _ => rfl
theorem look_number_eq {h : MH} {d : Dv} {lo hi : Int} (ht : tyd h d) : M_look_number [d, .int lo, .int hi] h = if isWh lo hi d = true then .ok .non h else .err "BadNumber" [] h := by
  split
  · rename_i hw
    apply eq_of_wR
    unfold M_look_number
    refine wF rfl ?_
    simp only [List.map_cons, List.map_nil, List.replicate_succ, List.replicate_zero, List.cons_append, List.nil_append, Nat.reduceSub]
    repeat' wtm_at "mi"
    refine ⟨⟨rfl, rfl⟩, wR_of (is_whole_eq ht) ?_⟩
    rw [hw]
    repeat' wtm_at "mi"
    exact ⟨fun z => (by cases z), fun _ => (by repeat' wtm_at "mi"; simp)⟩
  · rename_i hw
    apply err_of_wR
    unfold M_look_number
    refine wF rfl ?_
    simp only [List.map_cons, List.map_nil, List.replicate_succ, List.replicate_zero, List.cons_append, List.nil_append, Nat.reduceSub]
    repeat' wtm_at "mi"
    refine ⟨⟨rfl, rfl⟩, wR_of (is_whole_eq ht) ?_⟩
    rw [Bool.not_eq_true] at hw
    rw [hw]
    repeat' wtm_at "mi"
    exact ⟨fun _ => (by repeat' wtm_at "mi"; simp), fun z => (by cases z)⟩
theorem tyd_int {h : MH} {i : Int} : tyd h (.int i) := rfl
/-- a list of numbers -/
def gdW (h : MH) (least : Int) (d : Dv) : Bool := match rdL h d with
  | some xs => (decide (least ≤ xs.length) && decide ((xs.length : Int) ≤ 40)) && xs.all (isWh (-1000000) 1000000)
  | none => false
theorem asIt_of {h : MH} {d : Dv} {xs : List Dv} (e : rdL h d = some xs) : ∃ g, asIt d h = .ok (xs, g) h ∧ g.ok xs h = true := by
  cases d with
  | lst ys => cases e; exact ⟨.free, rfl, rfl⟩
  | obj i =>
    have e' : (match h[i]? with
      | some (.lst xs) => some xs
      | _ => none) = some xs := e
    cases hi : h[i]? with
    | none => rw [hi] at e'; cases e'
    | some c =>
      rw [hi] at e'
      cases c with
      | lst ys =>
        cases e'
        refine ⟨.cell i, ?_, cellIs_iff.mpr hi⟩
        show (match h[i]? with
          | some (.lst xs) => Res.ok (xs, Gd.cell i) h
          | _ => .stuck) = _
        rw [hi]
      | _ => cases e'
  | _ => cases e
theorem rdK_of_rdL {h : MH} {d : Dv} {xs : List Dv} (e : rdL h d = some xs) : rdK h d = some xs := by
  cases d with
  | lst ys => exact e
  | obj i => exact e
  | _ => cases e
theorem rdA_of_rdL {h : MH} {d : Dv} {xs : List Dv} (e : rdL h d = some xs) : rdA h d = some xs := by
  cases d with
  | lst ys => exact e
  | obj i => exact e
  | _ => cases e
theorem rdS_of_rdL {h : MH} {d : Dv} {xs : List Dv} (e : rdL h d = some xs) : rdS h d = some xs := by
  cases d with
  | lst ys => exact e
  | obj i => exact e
  | _ => cases e
theorem tyN_list {h : MH} {d : Dv} {a : String} (e : tyN h d = some a) (hk : ∀ xs, d ≠ .kls xs) : subTy a "list" = true ↔ ∃ xs, rdL h d = some xs := by
  cases d with
  | kls xs => exact absurd rfl (hk xs)
  | lst xs => cases e; exact ⟨fun _ => ⟨xs, rfl⟩, fun _ => by decide⟩
  | obj j =>
    have e' : (match h[j]? with
      | some (.lst _) => some "list"
      | some (.dct _) => some "dict"
      | _ => none) = some a := e
    have er : rdL h (.obj j) = match h[j]? with
      | some (.lst xs) => some xs
      | _ => none := rfl
    cases hj : h[j]? with
    | none => rw [hj] at e'; cases e'
    | some c =>
      rw [hj] at e' er
      cases c with
      | lst xs => cases e'; exact ⟨fun _ => ⟨xs, er⟩, fun _ => by decide⟩
      | dct xs => cases e'; exact ⟨fun z => absurd z (by decide), fun ⟨xs, z⟩ => by rw [er] at z; cases z⟩
      | _ => cases e'
  | exc _ _ => cases e
  | _ => cases e; exact ⟨fun z => absurd z (by decide), fun ⟨xs, z⟩ => by cases z⟩
theorem look_worths_eq {h : MH} {d : Dv} {least : Int} (ht : tyd h d) (hk : ∀ xs, d ≠ .kls xs) (hi : ∀ xs, rdL h d = some xs → ∀ x ∈ xs, tyd h x) :
    M_look_worths [d, .int least] h = if gdW h least d = true then .ok .non h else .err "BadWorths" [] h := by
  obtain ⟨a, ha⟩ := Option.isSome_iff_exists.mp ht
  have key : ∀ (Q : Dv → MH → Prop) (E : QE), (gdW h least d = true → Q .non h) → (gdW h least d = false → E "BadWorths" [] h) → wR (M_look_worths [d, .int least] h) Q E := by
    intro Q E hq he
    unfold M_look_worths
    refine wF rfl ?_
    simp only [List.map_cons, List.map_nil, List.replicate_succ, List.replicate_zero, List.cons_append, List.nil_append, Nat.reduceSub]
    repeat' wtm_at "mi"
    refine wR_of (isT_of ha) ?_
    repeat' wtm_at "mi"
    refine ⟨fun h1 => ?_, fun h1 => ?_⟩
    · obtain ⟨xs, hx⟩ := (tyN_list ha hk).mp h1
      have hg : gdW h least d = ((decide (least ≤ xs.length) && decide ((xs.length : Int) ≤ 40)) && xs.all (isWh (-1000000) 1000000)) := by unfold gdW; rw [hx]
      repeat' wtm_at "mi"
      refine wR_of (fLen_of (rdA_of_rdL hx)) ?_
      repeat' wtm_at "mi"
      have all : ∀ (τ : MEnv) (Q' : Dv → MH → Prop) (E' : QE), τ = [some d, some (.int least), some (.bl true), none] → Q' (.bl (xs.all (isWh (-1000000) 1000000))) h → xs.length ≤ 40 →
          wR (eOps fAll (aCons (eLc (iVal (eVar 0)) (mgName 3) (mYes) (eCall 3 0 gD_is_whole_3 M_is_whole (aCons (eVar 3) (aCons (eOp1 oNeg (eC (.int 1000000))) (aCons (eC (.int 1000000)) (aNil)))) (aNil)) [3]) (aNil)) τ h) Q' E' := by
        rintro τ Q' E' rfl hq' hl'
        repeat' wtm_at "mi"
        obtain ⟨g, e1, e2⟩ := asIt_of hx
        refine wR_of e1 ?_
        refine wR_of (lcL_pure (fun _ => true) (fun x => .bl (isWh (-1000000) 1000000 x)) e2 xs [] (by simp; omega) fun x hm => ⟨_, rfl, rfl, fun _ => eq_of_wR ?_⟩) ?_
        · repeat' wtm_at "mi"
          exact ⟨⟨rfl, rfl⟩, wR_of (is_whole_eq (hi xs hx x hm)) ⟨rfl, rfl⟩⟩
        · repeat' wtm_at "mi"
          refine wR_of (fAll_of (xs := xs.map (isWh (-1000000) 1000000)) ?_) ?_
          · show some _ = some _
            rw [List.filter_eq_self.mpr (fun _ _ => rfl), List.nil_append, List.map_map]
            rfl
          · rw [List.all_map]
            exact hq'
      refine ⟨fun h2 => ?_, fun h2 => ?_⟩
      · repeat' wtm_at "mi"
        rw [hg, h2] at hq he
        cases h3 : decide ((xs.length : Int) ≤ 40) with
        | false =>
          rw [h3] at hq he
          repeat' wtm_at "mi"
          refine ⟨fun z => (by cases z), fun _ => ⟨fun _ => ?_, fun z => (by cases z)⟩⟩
          repeat' wtm_at "mi"
          exact he rfl
        | true =>
          rw [h3] at hq he
          repeat' wtm_at "mi"
          refine ⟨fun _ => ?_, fun z => (by cases z)⟩
          apply wT_not
          apply wT_test
          refine all _ _ _ rfl ⟨_, rfl, ?_⟩ (by have := of_decide_eq_true h3; omega)
          cases h4 : xs.all (isWh (-1000000) 1000000) with
          | false =>
            rw [h4] at he
            refine ⟨fun _ => ?_, fun z => (by cases z)⟩
            repeat' wtm_at "mi"
            exact he rfl
          | true =>
            rw [h4] at hq
            refine ⟨fun z => (by cases z), fun _ => ?_⟩
            repeat' wtm_at "mi"
            exact hq rfl
      · rw [hg, h2] at he
        repeat' wtm_at "mi"
        refine ⟨fun z => (by cases z), fun _ => ⟨fun _ => ?_, fun z => (by cases z)⟩⟩
        repeat' wtm_at "mi"
        exact he rfl
    · have hg : gdW h least d = false := by
        unfold gdW
        cases e : rdL h d with
        | none => rfl
        | some xs => rw [(tyN_list ha hk).mpr ⟨xs, e⟩] at h1; cases h1
      repeat' wtm_at "mi"
      refine ⟨fun z => (by cases z), fun _ => ⟨fun _ => ?_, fun z => (by cases z)⟩⟩
      repeat' wtm_at "mi"
      exact he hg
  split
  · rename_i hw
    exact eq_of_wR (key _ _ (fun _ => ⟨rfl, rfl⟩) fun z => by rw [hw] at z; cases z)
  · rename_i hw
    exact err_of_wR (key _ _ (fun z => hw z) fun _ => ⟨rfl, rfl, rfl⟩)
/-! ### ints -/
theorem gdW_ints {h : MH} {d : Dv} {xs : List Int} {least : Int} (e : rdL h d = some (xs.map .int)) (h1 : least ≤ xs.length) (h2 : xs.length ≤ 40) (h3 : ∀ x ∈ xs, -1000000 ≤ x ∧ x ≤ 1000000) : gdW h least d = true := by
  unfold gdW
  rw [e]
  simp only [List.length_map, Bool.and_eq_true, decide_eq_true_eq, List.all_eq_true, List.mem_map]
  refine ⟨⟨h1, by omega⟩, ?_⟩
  rintro x ⟨y, hy, rfl⟩
  have := h3 y hy
  show (decide (_ ≤ y) && decide (y ≤ _)) = true
  simp only [Bool.and_eq_true, decide_eq_true_eq]
  exact this
theorem tyd_rdL {h : MH} {d : Dv} {xs : List Dv} (e : rdL h d = some xs) : tyd h d ∧ ∀ ys, d ≠ .kls ys := by
  cases d with
  | lst ys => exact ⟨rfl, fun _ z => nomatch z⟩
  | obj i =>
    refine ⟨?_, fun _ z => nomatch z⟩
    have e' : (match h[i]? with
      | some (.lst xs) => some xs
      | _ => none) = some xs := e
    unfold tyd tyN
    split at e'
    · rename_i hi
      simp only [hi]; rfl
    · cases e'
  | _ => cases e
theorem look_worths_ok {h : MH} {d : Dv} {xs : List Int} (e : rdL h d = some (xs.map .int)) (h1 : 1 ≤ xs.length) (h2 : xs.length ≤ 40) (h3 : ∀ x ∈ xs, -1000000 ≤ x ∧ x ≤ 1000000) : M_look_worths [d, .int 1] h = .ok .non h := by
  rw [look_worths_eq (tyd_rdL e).1 (tyd_rdL e).2 fun ys ey y hy => ?_, if_pos (gdW_ints e (by omega) h2 h3)]
  rw [e] at ey
  cases ey
  obtain ⟨z, _, rfl⟩ := List.mem_map.mp hy
  rfl
theorem look_few_ok {h : MH} {f : Nat} (hf : f ≤ 5) : M_look_number [.int f, .int 0, .int 5] h = .ok .non h := by
  rw [look_number_eq tyd_int, if_pos]
  simp only [isWh, Bool.and_eq_true, decide_eq_true_eq]
  omega
/-! ### what is left -/
def leftN (xs : List Int) (f : Nat) : List Int := ((sortI xs).drop f).take (xs.length - 2 * f)
theorem sortI_len (xs : List Int) : (sortI xs).length = xs.length := (sortI_perm xs).length_eq
theorem leftN_len {xs : List Int} {f : Nat} (h : 2 * f < xs.length) : (leftN xs f).length = xs.length - 2 * f := by
  unfold leftN
  rw [List.length_take, List.length_drop, sortI_len]
  omega
def midN (xs : List Int) (f : Nat) : Int := ((leftN xs f).head?.getD 0 + (leftN xs f).getLast?.getD 0) / 2
theorem left_of_eq {h : MH} {d : Dv} {xs : List Int} {f : Nat} (e : rdL h d = some (xs.map .int)) (h1 : 2 * f < xs.length) (h2 : xs.length < 64) : M_left_of [d, .int f] h = .ok (.lst ((leftN xs f).map .int)) h := by
  apply eq_of_wR
  unfold M_left_of
  refine wF rfl ?_
  simp only [List.map_cons, List.map_nil, List.replicate_succ, List.replicate_zero, List.cons_append, List.nil_append, Nat.reduceSub]
  repeat' wtm_at "mi"
  refine wR_of (fSorted_of (rdK_of_rdL e) h2) ?_
  repeat' wtm_at "mi"
  refine wR_of (fLen_of (rdA_of_rdL e)) ?_
  rw [List.length_map]
  repeat' wtm_at "mi"
  refine wR_of (oSl_of rfl) ⟨?_, rfl⟩
  unfold cutD leftN
  rw [List.length_map, sortI_len, sIx_nat (by omega), sIx_nat (by omega), ← List.map_drop, ← List.map_take]
  have e1 : min (f : Int).toNat xs.length = f := by omega
  have e2 : min ((xs.length : Int) - f).toNat xs.length = xs.length - f := by omega
  have e3 : xs.length - f - f = xs.length - 2 * f := by omega
  rw [e1, e2, e3]
theorem middle_of_eq {h : MH} {d : Dv} {xs : List Int} {f : Nat} (e : rdL h d = some (xs.map .int)) (h1 : 2 * f < xs.length) (h2 : xs.length < 64) : M_middle_of [d, .int f] h = .ok (.int (midN xs f)) h := by
  have hl := leftN_len h1
  have hn : leftN xs f ≠ [] := fun z => by rw [z] at hl; simp at hl; omega
  apply eq_of_wR
  unfold M_middle_of
  refine wF rfl ?_
  simp only [List.map_cons, List.map_nil, List.replicate_succ, List.replicate_zero, List.cons_append, List.nil_append, Nat.reduceSub]
  repeat' wtm_at "mi"
  refine ⟨⟨rfl, rfl⟩, wR_of (left_of_eq e h1 h2) ?_⟩
  repeat' wtm_at "mi"
  refine wV_ix (x := .int ((leftN xs f).head?.getD 0)) (xs := (leftN xs f).map .int) rfl (by omega) ?_ ?_
  · cases hx : leftN xs f with
    | nil => exact absurd hx hn
    | cons x r => rfl
  repeat' wtm_at "mi"
  refine wR_of (a := .int ((leftN xs f).getLast?.getD 0)) (h := h) ?_ ?_
  · show (match atI ((leftN xs f).map Dv.int) (-1) with
      | some d => Res.ok d h
      | none => .stuck) = _
    rw [atI_neg (by simpa using hn), List.getLast?_map]
    cases hx : (leftN xs f).getLast? with
    | none => rw [List.getLast?_eq_none_iff] at hx; exact absurd hx hn
    | some x => rfl
  repeat' wtm_at "mi"
  exact ⟨rfl, rfl⟩
structure OkW (xs : List Int) : Prop where
  l1 : 1 ≤ xs.length
  l2 : xs.length ≤ 40
  b : ∀ x ∈ xs, -1000000 ≤ x ∧ x ≤ 1000000
theorem trimmed_ok {h : MH} {d : Dv} {xs : List Int} {f : Nat} (e : rdL h d = some (xs.map .int)) (w : OkW xs) (hf : f ≤ 5) (h1 : 2 * f < xs.length) : M_trimmed [d, .int f] h = .ok (.lst ((leftN xs f).map .int)) h := by
  have h40 := w.l2
  apply eq_of_wR
  unfold M_trimmed
  refine wF rfl ?_
  simp only [List.map_cons, List.map_nil, List.replicate_succ, List.replicate_zero, List.cons_append, List.nil_append, Nat.reduceSub]
  repeat' wtm_at "mi"
  refine ⟨⟨rfl, rfl⟩, wR_of (look_few_ok hf) ?_⟩
  repeat' wtm_at "mi"
  refine ⟨⟨rfl, rfl⟩, wR_of (look_worths_ok e w.l1 w.l2 w.b) ?_⟩
  repeat' wtm_at "mi"
  refine wR_of (fLen_of (rdA_of_rdL e)) ?_
  rw [List.length_map]
  repeat' wtm_at "mi"
  refine ⟨fun z => ?_, fun _ => ?_⟩
  · have := of_decide_eq_true z
    omega
  repeat' wtm_at "mi"
  refine ⟨⟨rfl, rfl⟩, wR_of (left_of_eq e h1 (by omega)) ⟨rfl, rfl⟩⟩
theorem middle_ok {h : MH} {d : Dv} {xs : List Int} {f : Nat} (e : rdL h d = some (xs.map .int)) (w : OkW xs) (hf : f ≤ 5) (h1 : 2 * f < xs.length) : M_middle [d, .int f] h = .ok (.int (midN xs f)) h := by
  have h40 := w.l2
  apply eq_of_wR
  unfold M_middle
  refine wF rfl ?_
  simp only [List.map_cons, List.map_nil, List.replicate_succ, List.replicate_zero, List.cons_append, List.nil_append, Nat.reduceSub]
  repeat' wtm_at "mi"
  refine ⟨⟨rfl, rfl⟩, wR_of (trimmed_ok e w hf h1) ?_⟩
  repeat' wtm_at "mi"
  exact ⟨⟨rfl, rfl⟩, wR_of (middle_of_eq e h1 (by omega)) ⟨rfl, rfl⟩⟩
theorem mean_ok {h : MH} {d : Dv} {xs : List Int} {f : Nat} (e : rdL h d = some (xs.map .int)) (w : OkW xs) (hf : f ≤ 5) (h1 : 2 * f < xs.length) : M_mean [d, .int f] h = .ok (.int ((leftN xs f).sum / (leftN xs f).length)) h := by
  have h40 := w.l2
  have hl := leftN_len h1
  apply eq_of_wR
  unfold M_mean
  refine wF rfl ?_
  simp only [List.map_cons, List.map_nil, List.replicate_succ, List.replicate_zero, List.cons_append, List.nil_append, Nat.reduceSub]
  repeat' wtm_at "mi"
  refine ⟨⟨rfl, rfl⟩, wR_of (trimmed_ok e w hf h1) ?_⟩
  repeat' wtm_at "mi"
  refine wR_of (fSum_of rfl) ?_
  repeat' wtm_at "mi"
  refine wR_of (fLen_of rfl) ?_
  rw [List.length_map]
  repeat' wtm_at "mi"
  exact ⟨rfl, rfl⟩
def medN (xs : List Int) : Int := ((sortI xs)[(xs.length - 1) / 2]?).getD 0
theorem median_ok {h : MH} {d : Dv} {xs : List Int} (e : rdL h d = some (xs.map .int)) (w : OkW xs) : M_median [d] h = .ok (.int (medN xs)) h := by
  have h40 := w.l2
  have h1 := w.l1
  apply eq_of_wR
  unfold M_median
  refine wF rfl ?_
  simp only [List.map_cons, List.map_nil, List.replicate_succ, List.replicate_zero, List.cons_append, List.nil_append, Nat.reduceSub]
  repeat' wtm_at "mi"
  refine ⟨⟨rfl, rfl⟩, wR_of (look_worths_ok e w.l1 w.l2 w.b) ?_⟩
  repeat' wtm_at "mi"
  refine wR_of (fSorted_of (rdK_of_rdL e) (by omega)) ?_
  repeat' wtm_at "mi"
  refine wR_of (fLen_of (rdA_of_rdL e)) ?_
  rw [List.length_map]
  repeat' wtm_at "mi"
  refine wV_ix (xs := (sortI xs).map .int) (x := .int (medN xs)) rfl (by omega) ?_ ⟨rfl, rfl⟩
  have hk : (((xs.length : Int) - 1) / 2).toNat = (xs.length - 1) / 2 := by omega
  rw [hk, List.getElem?_map]
  unfold medN
  have hlt : (xs.length - 1) / 2 < (sortI xs).length := by rw [sortI_len]; omega
  rw [List.getElem?_eq_getElem hlt]
  rfl
theorem spread_ok {h : MH} {d : Dv} {xs : List Int} (e : rdL h d = some (xs.map .int)) (w : OkW xs) : M_spread [d] h = .ok (.int (maxL xs - minL xs)) h := by
  have hn : xs ≠ [] := fun z => by have := w.l1; rw [z] at this; simp at this
  apply eq_of_wR
  unfold M_spread
  refine wF rfl ?_
  simp only [List.map_cons, List.map_nil, List.replicate_succ, List.replicate_zero, List.cons_append, List.nil_append, Nat.reduceSub]
  repeat' wtm_at "mi"
  refine ⟨⟨rfl, rfl⟩, wR_of (look_worths_ok e w.l1 w.l2 w.b) ?_⟩
  repeat' wtm_at "mi"
  refine wR_of (fMax_of (rdK_of_rdL e) hn) ?_
  repeat' wtm_at "mi"
  refine wR_of (fMin_of (rdK_of_rdL e) hn) ?_
  repeat' wtm_at "mi"
  exact ⟨rfl, rfl⟩
theorem is_between_ok {h : MH} {d : Dv} {xs : List Int} {i : Int} (e : rdL h d = some (xs.map .int)) (w : OkW xs) : M_is_between [.int i, d] h = .ok (.bl (decide (minL xs ≤ i ∧ i ≤ maxL xs))) h := by
  have hn : xs ≠ [] := fun z => by have := w.l1; rw [z] at this; simp at this
  apply eq_of_wR
  unfold M_is_between
  refine wF rfl ?_
  simp only [List.map_cons, List.map_nil, List.replicate_succ, List.replicate_zero, List.cons_append, List.nil_append, Nat.reduceSub]
  repeat' wtm_at "mi"
  refine ⟨⟨rfl, rfl⟩, wR_of (look_worths_ok e w.l1 w.l2 w.b) ?_⟩
  repeat' wtm_at "mi"
  refine wR_of (fMin_of (rdK_of_rdL e) hn) ?_
  repeat' wtm_at "mi"
  refine ⟨fun z => ?_, fun z => ?_⟩
  · repeat' wtm_at "mi"
    refine wR_of (fMax_of (rdK_of_rdL e) hn) ?_
    repeat' wtm_at "mi"
    have z := of_decide_eq_true z
    exact ⟨by simp [z], rfl⟩
  · have z := of_decide_eq_false z
    exact ⟨by simp [z], rfl⟩
end L2.Mi.Lw

/-! MpMath: lists of numbers, rising; what draws make; small words. -/
namespace L2.Mi.Lw
open PySem PySem.Spec PyProof.Rows
local macro_rules | `(tactic| wtm_at "mi") => `(tactic| first
  | (with_reducible apply wS_seq) | (with_reducible apply wS_set) | (with_reducible apply wS_if) | (with_reducible apply wS_ret) | (with_reducible apply wS_retF) | (with_reducible apply wS_expr) | (with_reducible apply wS_setix) | (with_reducible apply wS_nil) | (with_reducible apply wS_raise) | (with_reducible apply wS_asg) | (with_reducible apply wS_par)
  | ((with_reducible refine' wE_var ?e ?_); (case e => exact rfl)) | (with_reducible apply wE_c) | (with_reducible apply wE_op2) | (with_reducible apply wE_op1) | (with_reducible apply wE_ops) | (with_reducible apply wE_call) | (with_reducible apply wA_cons) | (with_reducible apply wA_nil)
  | (with_reducible apply wE_and) | (with_reducible apply wE_or) | (with_reducible apply wE_not) | (with_reducible apply wE_if) | (with_reducible apply wT_test) | (with_reducible apply wE_chain) | (with_reducible apply wE_sl) | (with_reducible apply wO_none) | (with_reducible apply wO_some)
  | (with_reducible apply wT_and) | (with_reducible apply wT_or) | (with_reducible apply wT_not) | (with_reducible apply wT_yes) | (with_reducible apply wE_mth) | (with_reducible apply wS_for) | (with_reducible apply wI_val) | (with_reducible apply wI_range1) | (with_reducible apply wI_range2) | (with_reducible apply wE_lc)
  | (with_reducible apply wV_add) | (with_reducible apply wV_sub) | (with_reducible apply wV_neg) | (with_reducible apply wV_lt) | (with_reducible apply wV_le) | (with_reducible apply wV_gt) | (with_reducible apply wV_ge) | (with_reducible apply wV_eq) | (with_reducible apply wV_ne)
  | ((with_reducible refine' wV_mul ?c ?_); (case c => omega)) | ((with_reducible refine' wV_mod ?c ?_); (case c => omega)) | ((with_reducible refine' wV_div ?c ?_); (case c => omega)) | ((with_reducible refine' wV_pow ?c ?_); (case c => omega))
  | (with_reducible apply wE_fld) | (with_reducible apply wS_fld) | (with_reducible apply wE_make) | (with_reducible apply wE_obj) | (with_reducible apply wS_try) | (with_reducible apply wE_mthR) | (with_reducible apply wE_dct0) | ((with_reducible refine' wE_isE ?c ?_); (case c => decide)) | (with_reducible apply wV_isNon) | (with_reducible apply wV_isNotNon)
  | (with_reducible refine ⟨_, rfl, ?_⟩) | (dsimp only [List.set_cons_zero, List.set_cons_succ]))
/-! ### rising -/
theorem maxL_mem {xs : List Int} (h : xs ≠ []) : maxL xs ∈ xs := (maxL_spec h).1
theorem minL_mem {xs : List Int} (h : xs ≠ []) : minL xs ∈ xs := (minL_spec h).1
theorem le_maxL {xs : List Int} {y : Int} (h : y ∈ xs) : y ≤ maxL xs := (maxL_spec (List.ne_nil_of_mem h)).2 y h
theorem minL_le {xs : List Int} {y : Int} (h : y ∈ xs) : minL xs ≤ y := (minL_spec (List.ne_nil_of_mem h)).2 y h
theorem sorted_head {s : List Int} (h : s.Pairwise (· ≤ ·)) (hn : s ≠ []) : s.head? = some (minL s) := by
  cases s with
  | nil => exact absurd rfl hn
  | cons a r =>
    have h1 := List.pairwise_cons.mp h
    have h2 := minL_mem hn
    have h3 : minL (a :: r) ≤ a := minL_le List.mem_cons_self
    have : a = minL (a :: r) := by
      rcases List.mem_cons.mp h2 with e | e
      · exact e.symm
      · have := h1.1 _ e; omega
    simp only [List.head?_cons]; rw [← this]
theorem sorted_last {s : List Int} (h : s.Pairwise (· ≤ ·)) (hn : s ≠ []) : s.getLast? = some (maxL s) := by
  have e : s = s.dropLast ++ [s.getLast hn] := (List.dropLast_concat_getLast hn).symm
  rw [List.getLast?_eq_some_getLast hn]
  congr 1
  have h1 : s.getLast hn ≤ maxL s := le_maxL (List.getLast_mem hn)
  have h2 := maxL_mem hn
  have h3 : (s.dropLast ++ [s.getLast hn]).Pairwise (· ≤ ·) := by rw [← e]; exact h
  rw [List.pairwise_append] at h3
  have : maxL s ≤ s.getLast hn := by
    have h2' : maxL s ∈ s.dropLast ++ [s.getLast hn] := by rw [← e]; exact h2
    rcases List.mem_append.mp h2' with m | m
    · exact h3.2.2 _ m _ (by simp)
    · rw [List.mem_singleton] at m; omega
  omega
theorem maxL_perm {xs ys : List Int} (p : xs.Perm ys) (h : xs ≠ []) : maxL xs = maxL ys := by
  have h' : ys ≠ [] := fun z => h (by rw [z] at p; exact p.eq_nil)
  exact Int.le_antisymm (le_maxL (p.mem_iff.mp (maxL_mem h))) (le_maxL (p.mem_iff.mpr (maxL_mem h')))
theorem minL_perm {xs ys : List Int} (p : xs.Perm ys) (h : xs ≠ []) : minL xs = minL ys := by
  have h' : ys ≠ [] := fun z => h (by rw [z] at p; exact p.eq_nil)
  exact Int.le_antisymm (minL_le (p.mem_iff.mpr (minL_mem h'))) (minL_le (p.mem_iff.mp (minL_mem h)))
theorem sortI_ne {xs : List Int} (h : xs ≠ []) : sortI xs ≠ [] := fun z => h (by have p := sortI_perm xs; rw [z] at p; exact p.symm.eq_nil)
theorem sortI_head {xs : List Int} (h : xs ≠ []) : (sortI xs).head? = some (minL xs) := by rw [sorted_head (sortI_le xs) (sortI_ne h), minL_perm (sortI_perm xs) (sortI_ne h)]
theorem sortI_last {xs : List Int} (h : xs ≠ []) : (sortI xs).getLast? = some (maxL xs) := by rw [sorted_last (sortI_le xs) (sortI_ne h), maxL_perm (sortI_perm xs) (sortI_ne h)]
theorem sortI_of_perm {xs ys : List Int} (p : xs.Perm ys) : sortI xs = sortI ys := sortI_one ((sortI_perm xs).trans p) (sortI_le xs)
theorem sortI_eq_self {s : List Int} (h : s.Pairwise (· ≤ ·)) : sortI s = s := (sortI_one (List.Perm.refl s) h).symm
theorem erase_min {xs : List Int} (h : xs ≠ []) : (xs.erase (minL xs)).Perm (sortI xs).tail := by
  have hh := sortI_head h
  cases hs : sortI xs with
  | nil => exact absurd hs (sortI_ne h)
  | cons a r =>
    rw [hs] at hh
    simp only [List.head?_cons, Option.some.injEq] at hh
    have p : xs.Perm (a :: r) := hs ▸ (sortI_perm xs).symm
    have p2 := p.erase (minL xs)
    rw [← hh, List.erase_cons_head] at p2
    rw [← hh]
    exact p2
theorem erase_max {xs : List Int} (h : xs ≠ []) : (xs.erase (maxL xs)).Perm (sortI xs).dropLast := by
  have hh := sortI_last h
  have hn := sortI_ne h
  have e : sortI xs = (sortI xs).dropLast ++ [maxL xs] := by
    rw [List.getLast?_eq_some_getLast hn] at hh
    have := List.dropLast_concat_getLast hn
    rw [Option.some.inj hh] at this
    exact this.symm
  have p0 : ((sortI xs).dropLast ++ [maxL xs]).Perm (maxL xs :: (sortI xs).dropLast) := List.perm_append_comm
  have p : xs.Perm (maxL xs :: (sortI xs).dropLast) := (sortI_perm xs).symm.trans ((List.Perm.of_eq e).trans p0)
  have p2 := p.erase (maxL xs)
  rw [List.erase_cons_head] at p2
  exact p2
theorem cut_step {xs : List Int} (h : 2 ≤ xs.length) : sortI ((xs.erase (minL xs)).erase (maxL (xs.erase (minL xs)))) = (sortI xs).tail.dropLast := by
  have hn : xs ≠ [] := fun z => by rw [z] at h; simp at h
  have p1 := erase_min hn
  have hl : (xs.erase (minL xs)).length = xs.length - 1 := List.length_erase_of_mem (minL_mem hn)
  have hn1 : xs.erase (minL xs) ≠ [] := fun z => by rw [z] at hl; simp at hl; omega
  have st : (sortI xs).tail.Pairwise (· ≤ ·) := (sortI_le xs).tail
  have p2 := erase_max hn1
  have e1 : sortI (xs.erase (minL xs)) = (sortI xs).tail := by rw [sortI_of_perm p1, sortI_eq_self st]
  rw [e1] at p2
  rw [sortI_of_perm p2]
  exact sortI_eq_self (st.sublist (List.dropLast_sublist _))
theorem cut_take {s : List Int} {k m : Nat} (h : k + m ≤ s.length) (hm : 2 ≤ m) : ((s.drop k).take m).tail.dropLast = (s.drop (k + 1)).take (m - 2) := by
  have e1 : ((s.drop k).take m).tail = (s.drop (k + 1)).take (m - 1) := by
    rw [← List.drop_one, List.drop_take, List.drop_drop]
  rw [e1, List.dropLast_eq_take, List.length_take, List.length_drop, List.take_take]
  congr 1
  omega
/-! ### how many below, above the median -/
theorem sorted_get {s : List Int} (h : s.Pairwise (· ≤ ·)) {i j : Nat} (hi : i ≤ j) (hj : j < s.length) : s[i]'(by omega) ≤ s[j] := by
  by_cases e : i = j
  · subst e; exact Int.le_refl _
  · exact List.pairwise_iff_getElem.mp h i j (by omega) hj (by omega)
theorem below_le {s : List Int} (h : s.Pairwise (· ≤ ·)) {m : Nat} (hm : m < s.length) : (s.filter fun x => decide (x < s[m])).length ≤ m := by
  have e : s = s.take m ++ s.drop m := (List.take_append_drop m s).symm
  have e2 : (s.drop m).filter (fun x => decide (x < s[m])) = [] := by
    rw [List.filter_eq_nil_iff]
    intro x hx
    obtain ⟨i, hi, rfl⟩ := List.getElem_of_mem hx
    rw [List.getElem_drop]
    rw [List.length_drop] at hi
    have := sorted_get h (i := m) (j := m + i) (by omega) (by omega)
    simp only [decide_eq_true_eq]
    omega
  calc (s.filter fun x => decide (x < s[m])).length = ((s.take m ++ s.drop m).filter fun x => decide (x < s[m])).length := by rw [← e]
    _ = ((s.take m).filter fun x => decide (x < s[m])).length := by rw [List.filter_append, e2, List.append_nil]
    _ ≤ (s.take m).length := List.length_filter_le _ _
    _ ≤ m := by rw [List.length_take]; omega
theorem above_le {s : List Int} (h : s.Pairwise (· ≤ ·)) {m : Nat} (hm : m < s.length) : (s.filter fun x => decide (s[m] < x)).length ≤ s.length - 1 - m := by
  have e : s = s.take (m + 1) ++ s.drop (m + 1) := (List.take_append_drop (m + 1) s).symm
  have e2 : (s.take (m + 1)).filter (fun x => decide (s[m] < x)) = [] := by
    rw [List.filter_eq_nil_iff]
    intro x hx
    obtain ⟨i, hi, rfl⟩ := List.getElem_of_mem hx
    rw [List.getElem_take]
    rw [List.length_take] at hi
    have := sorted_get h (i := i) (j := m) (by omega) (by omega)
    simp only [decide_eq_true_eq]
    omega
  calc (s.filter fun x => decide (s[m] < x)).length = ((s.take (m + 1) ++ s.drop (m + 1)).filter fun x => decide (s[m] < x)).length := by rw [← e]
    _ = ((s.drop (m + 1)).filter fun x => decide (s[m] < x)).length := by rw [List.filter_append, e2, List.nil_append]
    _ ≤ (s.drop (m + 1)).length := List.length_filter_le _ _
    _ ≤ s.length - 1 - m := by rw [List.length_drop]; omega
theorem medN_get {xs : List Int} (h : 1 ≤ xs.length) : medN xs = (sortI xs)[(xs.length - 1) / 2]'(by rw [sortI_len]; omega) := by
  unfold medN
  rw [List.getElem?_eq_getElem (by rw [sortI_len]; omega)]
  rfl
theorem medN_mem {xs : List Int} (h : 1 ≤ xs.length) : medN xs ∈ xs := by
  rw [medN_get h]
  exact (sortI_perm xs).mem_iff.mp (List.getElem_mem _)
theorem med_below {xs : List Int} (h : 1 ≤ xs.length) : (xs.filter fun x => decide (x < medN xs)).length ≤ (xs.length - 1) / 2 := by
  have p := ((sortI_perm xs).filter fun x => decide (x < medN xs)).length_eq
  rw [← p, medN_get h]
  exact below_le (sortI_le xs) _
theorem med_above {xs : List Int} (h : 1 ≤ xs.length) : (xs.filter fun x => decide (medN xs < x)).length ≤ xs.length / 2 := by
  have p := ((sortI_perm xs).filter fun x => decide (medN xs < x)).length_eq
  rw [← p, medN_get h]
  have := above_le (sortI_le xs) (m := (xs.length - 1) / 2) (by rw [sortI_len]; omega)
  have hl := sortI_len xs
  omega
theorem sum_perm {xs ys : List Int} (p : xs.Perm ys) : xs.sum = ys.sum := by
  induction p with
  | nil => rfl
  | cons x _ ih => simp only [List.sum_cons, ih]
  | swap x y l => simp only [List.sum_cons]; omega
  | trans _ _ h1 h2 => exact h1.trans h2
/-! ### comprehensions over draws -/
theorem lc_town {all : List Dv} {mg : MG} {te : ME} {τ : MEnv} {P : Dv → Prop} {rest : MH} (hmg : ∀ d, ∃ τ1, mg d τ = some τ1)
    (hte : ∀ d τ1 t (Q : Dv → MH → Prop), mg d τ = some τ1 → (∀ v t', P v → Q v (T t' rest)) → wR (te τ1 (T t rest)) Q nE) {ds : List Dv} (hl : ds.length ≤ 16777216) {t : Tw} {Q : Dv → MH → Prop} {E : QE}
    (q : ∀ ys t', ys.length = ds.length → (∀ y ∈ ys, P y) → Q (.lst ys) (T t' rest)) : wR (lcL .free all mg mYes te τ ds [] (T t rest)) Q E := by
  refine lcL_inv (fun r acc h => acc.length + r.length = ds.length ∧ (∀ y ∈ acc, P y) ∧ ∃ t, h = T t rest) ds ⟨by simp, fun y hy => (by cases hy), t, rfl⟩ (fun d r acc h i => ?_) (fun acc h i => ?_)
  · obtain ⟨i1, i2, t, rfl⟩ := i
    obtain ⟨τ1, e⟩ := hmg d
    refine ⟨rfl, τ1, e, wT_yes ⟨fun _ => hte d τ1 t _ e fun v t' hv => ?_, fun z => (by cases z)⟩⟩
    rw [List.length_cons] at i1
    refine ⟨by omega, by rw [List.length_append, List.length_singleton]; omega, fun y hy => ?_, t', rfl⟩
    rcases List.mem_append.mp hy with m | m
    · exact i2 y m
    · rw [List.mem_singleton] at m; rw [m]; exact hv
  · obtain ⟨i1, i2, t, rfl⟩ := i
    exact ⟨rfl, q acc t (by simpa using i1) i2⟩
theorem ints_of {P : Int → Prop} : ∀ {ys : List Dv}, (∀ y ∈ ys, ∃ v, y = .int v ∧ P v) → ∃ ns : List Int, ys = ns.map .int ∧ ∀ v ∈ ns, P v
  | [], _ => ⟨[], rfl, fun _ h => nomatch h⟩
  | y :: ys, h => by
    obtain ⟨v, rfl, hv⟩ := h y List.mem_cons_self
    obtain ⟨ns, rfl, hn⟩ := ints_of (ys := ys) fun z hz => h z (List.mem_cons_of_mem _ hz)
    refine ⟨v :: ns, rfl, fun z hz => ?_⟩
    rcases List.mem_cons.mp hz with e | hz
    · rw [e]; exact hv
    · exact hn z hz
theorem rangeD_len (i j : Int) : (rangeD i j).length = (j - i).toNat := by unfold rangeD; rw [List.length_map, List.length_range]
/-! ### tests that are known -/
theorem if_no {c : MT} {a b : MS} {τ : MEnv} {h : MH} {D : Ew} (e : wR (c τ h) (fun k h' => k = false ∧ h' = h) nE) (w : wS (b τ h) D) : wS (sIf c a b τ h) D := by
  have e := eq_of_wR e
  refine wS_if (wR_of e ⟨fun z => (by cases z), fun _ => w⟩)
theorem if_yes {c : MT} {a b : MS} {τ : MEnv} {h : MH} {D : Ew} (e : wR (c τ h) (fun k h' => k = true ∧ h' = h) nE) (w : wS (a τ h) D) : wS (sIf c a b τ h) D := by
  have e := eq_of_wR e
  refine wS_if (wR_of e ⟨fun _ => w, fun z => (by cases z)⟩)
theorem or_no {a b : MT} {τ : MEnv} {h : MH} (h1 : wR (a τ h) (fun k h' => k = false ∧ h' = h) nE) (h2 : wR (b τ h) (fun k h' => k = false ∧ h' = h) nE) : wR (mOr a b τ h) (fun k h' => k = false ∧ h' = h) nE :=
  wT_or (wR_of (eq_of_wR h1) ⟨fun _ => h2, fun z => (by cases z)⟩)
theorem and_yes {a b : MT} {τ : MEnv} {h : MH} (h1 : wR (a τ h) (fun k h' => k = true ∧ h' = h) nE) (h2 : wR (b τ h) (fun k h' => k = true ∧ h' = h) nE) : wR (mAnd a b τ h) (fun k h' => k = true ∧ h' = h) nE :=
  wT_and (wR_of (eq_of_wR h1) ⟨fun _ => h2, fun z => (by cases z)⟩)
theorem not_no {a : MT} {τ : MEnv} {h : MH} (h1 : wR (a τ h) (fun k h' => k = true ∧ h' = h) nE) : wR (mNot a τ h) (fun k h' => k = false ∧ h' = h) nE := wT_not (wR_of (eq_of_wR h1) ⟨rfl, rfl⟩)
/-! ### the laws' own small words -/
theorem whole_eq {h : MH} {i : Int} : M__law_whole [.int i] h = .ok (.bl true) h := by
  apply eq_of_wR
  unfold M__law_whole
  refine wF rfl ?_
  simp only [List.map_cons, List.map_nil, List.replicate_succ, List.replicate_zero, List.cons_append, List.nil_append, Nat.reduceSub]
  repeat' wtm_at "mi"
  refine wR_of (isT_of (a := "int") rfl) ?_
  repeat' wtm_at "mi"
  refine ⟨fun _ => ?_, fun z => absurd z (by decide)⟩
  repeat' wtm_at "mi"
  refine wR_of (isT_of (a := "int") rfl) ?_
  repeat' wtm_at "mi"
  exact ⟨by rw [show subTy "int" "bool" = false by decide]; rfl, rfl⟩
theorem is_eq {h : MH} {a b : Bool} : M__law_is [.bl a, .bl b] h = .ok (.bl (a == b)) h := by
  apply eq_of_wR
  unfold M__law_is
  refine wF rfl ?_
  simp only [List.map_cons, List.map_nil, List.replicate_succ, List.replicate_zero, List.cons_append, List.nil_append, Nat.reduceSub]
  repeat' wtm_at "mi"
  refine wR_of (isT_of (a := "bool") rfl) ?_
  repeat' wtm_at "mi"
  refine ⟨fun _ => ?_, fun z => absurd z (by decide)⟩
  repeat' wtm_at "mi"
  refine wR_of (oEq_of (r := (a == b)) ?_) ⟨rfl, rfl⟩
  unfold pyEq pyOf
  simp only [PyData.eqv]
theorem whole_list_eq {h : MH} {xs : List Int} (hl : xs.length ≤ 16777216) : M__law_whole_list [.lst (xs.map .int)] h = .ok (.bl true) h := by
  apply eq_of_wR
  unfold M__law_whole_list
  refine wF rfl ?_
  simp only [List.map_cons, List.map_nil, List.replicate_succ, List.replicate_zero, List.cons_append, List.nil_append, Nat.reduceSub]
  repeat' wtm_at "mi"
  refine wR_of (isT_of (a := "list") rfl) ?_
  repeat' wtm_at "mi"
  refine ⟨fun _ => ?_, fun z => absurd z (by decide)⟩
  repeat' wtm_at "mi"
  refine wR_of (a := (xs.map .int, Gd.free)) rfl ?_
  refine wR_of (lcL_pure (fun _ => true) (fun _ => .bl true) rfl _ [] (by simpa using hl) fun x hm => ⟨_, rfl, rfl, fun _ => eq_of_wR ?_⟩) ?_
  · obtain ⟨i, _, rfl⟩ := List.mem_map.mp hm
    repeat' wtm_at "mi"
    exact ⟨⟨rfl, rfl⟩, wR_of whole_eq ⟨rfl, rfl⟩⟩
  · repeat' wtm_at "mi"
    refine wR_of (fAll_of (xs := xs.map fun _ => true) ?_) ⟨?_, rfl⟩
    · show some _ = some _
      rw [List.filter_eq_self.mpr (fun _ _ => rfl), List.nil_append, List.map_map, List.map_map]
      rfl
    · simp
end L2.Mi.Lw

/-! MpDict: dicts by their keys' own kind. -/
namespace L2.Mi.Lw
open PySem PySem.Spec PyProof.Rows
/-- a kind of keys: how they stand in a dict, whether they are tuples -/
structure KeyKd (α : Type) where
  kd : α → Dv
  kk : α → Key ⊕ List Key
  t : Bool
  ek : ∀ a, dkey (kd a) = some (kk a)
  inj : ∀ a b, kk a = kk b → a = b
  tk : ∀ a, (∃ k, kk a = .inr k) ↔ t = true
section
variable {α : Type} [DecidableEq α] (κ : KeyKd α)
def dpl (kvs : List (α × Dv)) : List Dv := kvs.map fun p => .tup [κ.kd p.1, p.2]
/-- the dict's pairs, marked where its keys are tuples -/
def dmk (kvs : List (α × Dv)) : List Dv := if κ.t = true then .non :: dpl κ kvs else dpl κ kvs
def lkp (kvs : List (α × Dv)) (a : α) : Option Dv := (kvs.find? fun p => decide (p.1 = a)).map (·.2)
def putA (kvs : List (α × Dv)) (a : α) (v : Dv) : List (α × Dv) := if (lkp kvs a).isSome = true then kvs.map fun p => if p.1 = a then (p.1, v) else p else kvs ++ [(a, v)]
omit [DecidableEq α] in
theorem dpl_cons (p : α × Dv) (kvs : List (α × Dv)) : dpl κ (p :: kvs) = .tup [κ.kd p.1, p.2] :: dpl κ kvs := rfl
@[simp] theorem lkp_nil {a : α} : lkp ([] : List (α × Dv)) a = none := rfl
theorem lkp_cons {p : α × Dv} {kvs : List (α × Dv)} {a : α} : lkp (p :: kvs) a = if p.1 = a then some p.2 else lkp kvs a := by
  unfold lkp
  rw [List.find?_cons]
  by_cases h : p.1 = a
  · rw [if_pos h]; simp [h]
  · rw [if_neg h]; simp [h]
theorem lkp_append {xs ys : List (α × Dv)} {a : α} : lkp (xs ++ ys) a = if (lkp xs a).isSome = true then lkp xs a else lkp ys a := by
  induction xs with
  | nil => rfl
  | cons p xs ih =>
    rw [List.cons_append, lkp_cons, lkp_cons, ih]
    by_cases h : p.1 = a
    · rw [if_pos h, if_pos h]; rfl
    · rw [if_neg h, if_neg h]
theorem lkp_map {kvs : List (α × Dv)} {a b : α} {v : Dv} : lkp (kvs.map fun p => if p.1 = a then (p.1, v) else p) b = if b = a then (lkp kvs b).map (fun _ => v) else lkp kvs b := by
  induction kvs with
  | nil => simp
  | cons p kvs ih =>
    rw [List.map_cons, lkp_cons, lkp_cons, ih]
    by_cases h : p.1 = a
    · rw [if_pos h]
      by_cases hb : p.1 = b
      · rw [if_pos hb, if_pos hb, if_pos (hb.symm.trans h)]; rfl
      · rw [if_neg hb, if_neg hb]
    · rw [if_neg h]
      by_cases hb : p.1 = b
      · rw [if_pos hb, if_pos hb, if_neg (fun z => h (hb.trans z))]
      · rw [if_neg hb, if_neg hb]
theorem lkp_put {kvs : List (α × Dv)} {a b : α} {v : Dv} : lkp (putA kvs a v) b = if b = a then some v else lkp kvs b := by
  unfold putA
  split
  · rename_i h
    rw [lkp_map]
    by_cases hb : b = a
    · rw [if_pos hb, if_pos hb, hb]
      obtain ⟨x, hx⟩ := Option.isSome_iff_exists.mp h
      rw [hx]; rfl
    · rw [if_neg hb, if_neg hb]
  · rename_i h
    rw [lkp_append, lkp_cons]
    by_cases hb : b = a
    · subst hb
      rw [if_neg h, if_pos rfl, if_pos rfl]
    · show (if (lkp kvs b).isSome = true then lkp kvs b else if a = b then some v else none) = if b = a then some v else lkp kvs b
      rw [if_neg hb]
      by_cases h2 : (lkp kvs b).isSome = true
      · rw [if_pos h2]
      · rw [if_neg h2, if_neg (fun z => hb z.symm)]
        cases hx : lkp kvs b with
        | none => rfl
        | some x => rw [hx] at h2; exact absurd rfl h2
theorem lkp_mem {kvs : List (α × Dv)} {a : α} : (lkp kvs a).isSome = true ↔ a ∈ kvs.map (·.1) := by
  induction kvs with
  | nil => simp
  | cons p kvs ih =>
    rw [lkp_cons, List.map_cons, List.mem_cons]
    by_cases h : p.1 = a
    · rw [if_pos h]; simp [h]
    · rw [if_neg h, ih]
      constructor
      · exact .inr
      · rintro (z | z)
        · exact absurd z.symm h
        · exact z
theorem lkp_of_mem {kvs : List (α × Dv)} {a : α} {v : Dv} (h : lkp kvs a = some v) : (a, v) ∈ kvs := by
  unfold lkp at h
  obtain ⟨p, hp, rfl⟩ := Option.map_eq_some_iff.mp h
  have h1 := List.mem_of_find?_eq_some hp
  have h2 := List.find?_some hp
  have h2 : p.1 = a := of_decide_eq_true h2
  rw [← h2]
  exact h1
theorem put_keys {kvs : List (α × Dv)} {a : α} {v : Dv} : (putA kvs a v).map (·.1) = if a ∈ kvs.map (·.1) then kvs.map (·.1) else kvs.map (·.1) ++ [a] := by
  unfold putA
  by_cases h : (lkp kvs a).isSome = true
  · rw [if_pos h, if_pos (lkp_mem.mp h), List.map_map]
    refine List.map_congr_left fun p _ => ?_
    show (if p.1 = a then (p.1, v) else p).1 = p.1
    split <;> rfl
  · rw [if_neg h, if_neg (fun z => h (lkp_mem.mpr z)), List.map_append]
    rfl
theorem put_new {kvs : List (α × Dv)} {a : α} {v : Dv} (h : lkp kvs a = none) : putA kvs a v = kvs ++ [(a, v)] := by
  unfold putA
  rw [h]
  rfl
theorem put_len {kvs : List (α × Dv)} {a : α} {v : Dv} : (putA kvs a v).length ≤ kvs.length + 1 := by
  unfold putA
  split
  · rw [List.length_map]; omega
  · rw [List.length_append, List.length_singleton]; exact Nat.le_refl _
/-- what is stored anywhere is the new one or was there -/
theorem put_mem {kvs : List (α × Dv)} {a : α} {v : Dv} {p : α × Dv} (h : p ∈ putA kvs a v) : p = (a, v) ∨ p ∈ kvs := by
  unfold putA at h
  split at h
  · obtain ⟨q, hq, e⟩ := List.mem_map.mp h
    split at e
    · rename_i hqa
      left
      rw [← e, hqa]
    · right
      rw [← e]
      exact hq
  · rcases List.mem_append.mp h with h | h
    · exact .inr h
    · rw [List.mem_singleton] at h
      exact .inl h
theorem dfind_dpl {kvs : List (α × Dv)} {a : α} : dfind (κ.kk a) (dpl κ kvs) = lkp kvs a := by
  induction kvs with
  | nil => rfl
  | cons p kvs ih =>
    rw [dpl_cons, lkp_cons]
    show (if dkey (κ.kd p.1) = some (κ.kk a) then some p.2 else dfind (κ.kk a) (dpl κ kvs)) = _
    rw [κ.ek, ih]
    by_cases h : p.1 = a
    · rw [if_pos (by rw [h]), if_pos h]
    · rw [if_neg (fun z => h (κ.inj _ _ (Option.some.inj z))), if_neg h]
theorem drepl_dpl {kvs : List (α × Dv)} {a : α} {v : Dv} : drepl (κ.kk a) v (dpl κ kvs) = dpl κ (kvs.map fun p => if p.1 = a then (p.1, v) else p) := by
  induction kvs with
  | nil => rfl
  | cons p kvs ih =>
    rw [dpl_cons, List.map_cons, dpl_cons]
    show Dv.tup [κ.kd p.1, if dkey (κ.kd p.1) = some (κ.kk a) then v else p.2] :: drepl (κ.kk a) v (dpl κ kvs) = _
    rw [κ.ek, ih]
    by_cases h : p.1 = a
    · rw [if_pos (by rw [h]), if_pos h]
    · rw [if_neg (fun z => h (κ.inj _ _ (Option.some.inj z))), if_neg h]
theorem dput_dpl {kvs : List (α × Dv)} {a : α} {v : Dv} : dput (κ.kk a) (κ.kd a) v (dpl κ kvs) = dpl κ (putA kvs a v) := by
  unfold dput putA
  rw [dfind_dpl]
  split
  · exact drepl_dpl κ
  · unfold dpl
    rw [List.map_append]
    rfl
omit [DecidableEq α] in
theorem dpl_head {kvs : List (α × Dv)} {r : List Dv} : dpl κ kvs ≠ .non :: r := by
  cases kvs with
  | nil => intro z; cases z
  | cons p kvs => intro z; cases z
theorem dget_dmk {kvs : List (α × Dv)} {a : α} : dget (κ.kk a) (dmk κ kvs) = some (lkp kvs a) := by
  unfold dmk
  cases ht : κ.t with
  | true =>
    obtain ⟨k, hk⟩ := (κ.tk a).mpr ht
    rw [if_pos rfl, ← dfind_dpl κ, hk]
    rfl
  | false =>
    rw [if_neg Bool.false_ne_true, ← dfind_dpl κ]
    cases hk : κ.kk a with
    | inr k => have := (κ.tk a).mp ⟨k, hk⟩; rw [ht] at this; cases this
    | inl k =>
      cases kvs with
      | nil => rfl
      | cons p kvs => rfl
theorem dputM_dmk {kvs : List (α × Dv)} {a : α} {v : Dv} : dputM (κ.kk a) (κ.kd a) v (dmk κ kvs) = some (dmk κ (putA kvs a v)) := by
  unfold dmk
  cases ht : κ.t with
  | true =>
    obtain ⟨k, hk⟩ := (κ.tk a).mpr ht
    rw [if_pos rfl, if_pos rfl, ← dput_dpl κ, hk]
    rfl
  | false =>
    rw [if_neg Bool.false_ne_true, if_neg Bool.false_ne_true, ← dput_dpl κ]
    cases hk : κ.kk a with
    | inr k => have := (κ.tk a).mp ⟨k, hk⟩; rw [ht] at this; cases this
    | inl k =>
      cases kvs with
      | nil => rfl
      | cons p kvs => rfl
omit [DecidableEq α] in
theorem dkeysL_dpl {kvs : List (α × Dv)} : dkeysL (dpl κ kvs) = kvs.map fun p => κ.kd p.1 := by
  induction kvs with
  | nil => rfl
  | cons p kvs ih => rw [dpl_cons, List.map_cons, ← ih]; rfl
omit [DecidableEq α] in
theorem dkeys_dmk {kvs : List (α × Dv)} : dkeys (dmk κ kvs) = kvs.map fun p => κ.kd p.1 := by
  rw [← dkeysL_dpl κ]
  unfold dmk
  split
  · rfl
  · unfold dkeys
    split
    · rename_i r h; exact absurd h (dpl_head κ)
    · rfl
omit [DecidableEq α] in
theorem dmk_len {kvs : List (α × Dv)} : (dmk κ kvs).length ≤ kvs.length + 1 := by
  unfold dmk dpl
  split
  · rw [List.length_cons, List.length_map]; exact Nat.le_refl _
  · rw [List.length_map]; omega
/-! ### the operations -/
variable {h : MH} {d : Dv} {kvs : List (α × Dv)} {a : α} {Q : Dv → MH → Prop} {E : QE}
theorem wD_ix {x : Dv} (e : dctOf h d = some (dmk κ kvs)) (l : lkp kvs a = some x) (q : Q x h) : wR (oDx d (κ.kd a) h) Q E := wV_dx e (κ.ek a) (by rw [dget_dmk, l]) q
theorem oDx_eq {x : Dv} (e : dctOf h d = some (dmk κ kvs)) (l : lkp kvs a = some x) : oDx d (κ.kd a) h = .ok x h := eq_of_wR (wD_ix κ e l ⟨rfl, rfl⟩)
theorem oGet2_eq {z : Dv} (e : dctOf h d = some (dmk κ kvs)) : oGet2 d (κ.kd a) z h = .ok ((lkp kvs a).getD z) h := by
  unfold oGet2
  rw [e, κ.ek]
  simp only [dget_dmk]
  cases lkp kvs a <;> rfl
theorem oGet1_eq (e : dctOf h d = some (dmk κ kvs)) : oGet1 d (κ.kd a) h = .ok ((lkp kvs a).getD .non) h := by
  unfold oGet1
  rw [e, κ.ek]
  simp only [dget_dmk]
  cases lkp kvs a <;> rfl
theorem oInD_eq (e : dctOf h d = some (dmk κ kvs)) : oInD (κ.kd a) d h = .ok (.bl (lkp kvs a).isSome) h := by
  unfold oInD
  rw [e, κ.ek]
  simp only [dget_dmk]
theorem oNotInD_eq (e : dctOf h d = some (dmk κ kvs)) : oNotInD (κ.kd a) d h = .ok (.bl (!(lkp kvs a).isSome)) h := by
  unfold oNotInD
  rw [e, κ.ek]
  simp only [dget_dmk]
theorem oSetD_eq {i : Nat} {v : Dv} (e : h[i]? = some (.dct (dmk κ kvs))) (hl : kvs.length ≤ 1000000) : oSetD (.obj i) (κ.kd a) v h = some (h.set i (.dct (dmk κ (putA kvs a v)))) := by
  have ec : dcell h (.obj i) = some (i, dmk κ kvs) := by
    show (match h[i]? with
      | some (.dct ps) => some (i, ps)
      | _ => none) = _
    rw [e]
  have hb := dmk_len κ (kvs := kvs)
  unfold oSetD
  rw [ec, κ.ek]
  simp only
  rw [if_pos (show lineB _ = true from decide_eq_true (by omega)), dputM_dmk]
  rfl
theorem wE_get2 {τ : MEnv} {mo mk mx : ME} (w : wR (mo τ h) (fun d h1 => (∃ ps, dctOf h1 d = some ps) ∧ wR (mk τ h1) (fun i h2 => wR (mx τ h2) (fun z h3 => wR (oGet2 d i z h3) Q E) E) E) E) : wR (eGet2 mo mk mx τ h) Q E := by
  refine wR_bind (wR_mono w (fun d h1 w => ?_) fun _ _ _ e => e)
  obtain ⟨⟨ps, e⟩, w⟩ := w
  show wR (match dctOf h1 d with
    | some _ => (mk τ h1).bind fun i h2 => (mx τ h2).bind fun z h3 => oGet2 d i z h3
    | none => .stuck) Q E
  rw [e]
  exact wR_bind (wR_mono w (fun _ _ w => wR_bind w) fun _ _ _ e => e)
theorem wE_get1 {τ : MEnv} {mo mk : ME} (w : wR (mo τ h) (fun d h1 => (∃ ps, dctOf h1 d = some ps) ∧ wR (mk τ h1) (fun i h2 => wR (oGet1 d i h2) Q E) E) E) : wR (eGet1 mo mk τ h) Q E := by
  refine wR_bind (wR_mono w (fun d h1 w => ?_) fun _ _ _ e => e)
  obtain ⟨⟨ps, e⟩, w⟩ := w
  show wR (match dctOf h1 d with
    | some _ => (mk τ h1).bind fun i h2 => oGet1 d i h2
    | none => .stuck) Q E
  rw [e]
  exact wR_bind w
theorem wE_setdN {τ : MEnv} {mo mk : ME} (w : wR (mo τ h) (fun d h1 => (∃ ps, dctOf h1 d = some ps) ∧ wR (mk τ h1) (fun i h2 => wR (oSetdN d i h2) Q E) E) E) : wR (eSetdN mo mk τ h) Q E := by
  refine wR_bind (wR_mono w (fun d h1 w => ?_) fun _ _ _ e => e)
  obtain ⟨⟨ps, e⟩, w⟩ := w
  show wR (match dctOf h1 d with
    | some _ => (mk τ h1).bind fun i h2 => oSetdN d i h2
    | none => .stuck) Q E
  rw [e]
  exact wR_bind w
theorem oSetdN_eq {i : Nat} (ht : κ.t = true) (e : h[i]? = some (.dct (dmk κ kvs))) (hl : kvs.length ≤ 1000000) :
    oSetdN (.obj i) (κ.kd a) h = match lkp kvs a with
      | some x => .ok x h
      | none => .ok (.obj h.length) (List.set (h ++ [Cell.lst []]) i (.dct (dmk κ (putA kvs a (.obj h.length))))) := by
  have ec : dcell h (.obj i) = some (i, dmk κ kvs) := by
    show (match h[i]? with
      | some (.dct ps) => some (i, ps)
      | _ => none) = _
    rw [e]
  have hb := dmk_len κ (kvs := kvs)
  obtain ⟨k, hk⟩ := (κ.tk a).mpr ht
  have g := dget_dmk κ (kvs := kvs) (a := a)
  have p := dputM_dmk κ (kvs := kvs) (a := a) (v := .obj h.length)
  rw [hk] at g p
  unfold oSetdN
  rw [ec, κ.ek, hk]
  simp only
  rw [if_pos (show lineB _ = true from decide_eq_true (by omega)), g]
  cases hl : lkp kvs a with
  | some x => rfl
  | none => simp only [p]
end
/-! ### kinds -/
def kInt : KeyKd Int := ⟨fun i => .int i, fun i => .inl (.inl i), false, fun _ => rfl, fun a b e => by injection e with e; injection e, fun a => ⟨fun ⟨k, e⟩ => (by cases e), fun z => (by cases z)⟩⟩
def kPair : KeyKd (Int × Int) := ⟨fun p => .tup [.int p.1, .int p.2], fun p => .inr [.inl p.1, .inl p.2], true, fun _ => rfl, fun a b e => by
  injection e with e
  injection e with e1 e2
  injection e2 with e2 _
  injection e1 with e1
  injection e2 with e2
  exact Prod.ext e1 e2, fun a => ⟨fun _ => rfl, fun _ => ⟨_, rfl⟩⟩⟩
def kWord : KeyKd (Int × Str × Int) := ⟨fun p => .tup [.int p.1, .str p.2.1, .int p.2.2], fun p => .inr [.inl p.1, .inr p.2.1, .inl p.2.2], true, fun _ => rfl, fun a b e => by
  injection e with e
  injection e with e1 e2
  injection e2 with e2 e3
  injection e3 with e3 _
  injection e1 with e1
  injection e2 with e2
  injection e3 with e3
  exact Prod.ext e1 (Prod.ext e2 e3), fun a => ⟨fun _ => rfl, fun _ => ⟨_, rfl⟩⟩⟩
end L2.Mi.Lw

/-! MpRules: what the newer parts of a mirror must show. -/
namespace L2.Mi
open PySem PySem.Spec PyProof.Rows
section
variable {τ : MEnv} {h : MH} {D : Ew} {Q : Dv → MH → Prop} {E : QE}
theorem wS_forK {i : Nat} {ps : List Dv} {mg : MG} {body : MS} (e : τ[i]? = some (some (.dct ps))) (w : wS (forL .free (dkeys ps) mg body (dkeys ps) τ h) D) : wS (sForK i mg body τ h) D := by
  first
  | (refine wS_for ?_; unfold iKeysV; rw [e]; exact wR_ok w)
  | (unfold sForK; simp only [e]; refine wS_for ?_; unfold iKeysV; simp only [e]; exact wR_ok w)
theorem wE_dctT (q : Q (.obj h.length) (h ++ [.dct [.non]])) : wR (eDctT τ h) Q E := wR_ok q
theorem wE_dctK (q : Q (.obj h.length) (h ++ [.dct []])) : wR (eDctK τ h) Q E := wR_ok q
theorem wE_dct0T (q : Q (.dct [.non]) h) : wR (eDct0T τ h) Q E := wR_ok q
theorem wE_dc {mk : List Dv → MH → Res Dv} {mi : MI} {mg : MG} {tt : MT} {tk tv : ME} {vs : List Nat} (w : wR (mi τ h) (fun p h1 => wR (dcL mk p.2 p.1 mg tt tk tv (wipeD τ vs) p.1 [] h1) Q E) E) : wR (eDc mk mi mg tt tk tv vs τ h) Q E := wR_bind w
theorem dcL_inv {mk : List Dv → MH → Res Dv} {g : Gd} {all : List Dv} {mg : MG} {tt : MT} {tk tv : ME} (I : List Dv → List Dv → MH → Prop) : ∀ (ds : List Dv) {acc : List Dv} {h : MH}, I ds acc h →
    (∀ d ds acc h, I (d :: ds) acc h → g.ok all h = true ∧ ∃ τ1, mg d τ = some τ1 ∧ wR (tt τ1 h) (fun k h1 => (k = true → wR (tk τ1 h1) (fun kd h2 => wR (tv τ1 h2) (fun y h3 => acc.length + 1 ≤ 1000000 ∧ ∃ k, dkey kd = some (.inl k) ∧ I ds (dput (.inl k) kd y acc) h3) nE) nE) ∧ (k = false → I ds acc h1)) nE) →
    (∀ acc h, I [] acc h → g.ok all h = true ∧ wR (mk acc h) Q E) → wR (dcL mk g all mg tt tk tv τ ds acc h) Q E
  | [], acc, h, i, _, fin => by
    obtain ⟨g1, w⟩ := fin acc h i
    unfold dcL
    rw [if_pos g1]
    exact w
  | d :: ds, acc, h, i, step, fin => by
    obtain ⟨g1, τ1, e1, w⟩ := step d ds acc h i
    obtain ⟨k, h1, e2, w1, w2⟩ := ex_of_wR w
    unfold dcL
    rw [if_pos g1, e1]
    simp only [e2]
    cases k with
    | false => exact dcL_inv I ds (w2 rfl) step fin
    | true =>
      obtain ⟨kd, h2, e3, w⟩ := ex_of_wR (w1 rfl)
      obtain ⟨y, h3, e4, hl, k, ek, j⟩ := ex_of_wR w
      simp only [e3, e4, ek]
      rw [if_pos (show lineB _ = true from decide_eq_true (by omega))]
      exact dcL_inv I ds j step fin
theorem wE_lcC {mi : MI} {mg : MG} {tt : MT} {te : ME} {vs : List Nat} (w : wR (mi τ h) (fun p h1 => wR (lcL p.2 p.1 mg tt te (wipeD τ vs) p.1 [] h1) (fun d h2 => ∃ xs, d = .lst xs ∧ Q (.obj h2.length) (h2 ++ [.lst xs])) E) E) : wR (eLcC mi mg tt te vs τ h) Q E := by
  refine wR_bind (wR_mono w (fun p h1 w => ?_) fun _ _ _ e => e)
  refine wR_bind (wR_mono w (fun d h2 w => ?_) fun _ _ _ e => e)
  obtain ⟨xs, rfl, q⟩ := w
  exact wR_ok q
theorem wS_raise1 {c : Str} {m : ME} (w : wR (m τ h) (fun d h1 => D.E c [d] τ h1) (fun c xs h1 => D.E c xs τ h1)) : wS (sRaise1 c m τ h) D := by
  refine wS_toS (wR_mono w (fun d h1 w => ?_) fun _ _ _ e => e)
  with_unfolding_all exact w
theorem wE_frzV {i : Nat} {m : ME} {d : Dv} (e : τ[i]? = some (some d)) (w : wR (m (τ.set i (some (frzD d h).1)) (frzD d h).2) Q E) : wR (eFrzV i m τ h) Q E := by
  unfold eFrzV
  rw [e]
  exact w
theorem wE_altV {i : Nat} {cs : List Str} {a b : ME} {d : Dv} {j : Nat} {C : Str} {fs : List (Str × Dv)} (e : τ[i]? = some (some d)) (ei : insOf h d = some (j, C, fs)) (w1 : isE cs C = true → wR (a τ h) Q E) (w2 : isE cs C = false → wR (b τ h) Q E) : wR (eAltV i cs a b τ h) Q E := by
  unfold eAltV
  rw [e]
  simp only [ei]
  cases hc : isE cs C with
  | true => rw [if_pos rfl]; exact w1 hc
  | false => rw [if_neg Bool.false_ne_true]; exact w2 hc
theorem wS_fldAug {cs : List Str} {f : Str} {g : Int → Int → Int} {mo m : ME} (w : wR (mo τ h) (fun o h1 => ∃ i C fs x, insOf h1 o = some (i, C, fs) ∧ isE cs C = true ∧ fs.lookup f = some (.int x) ∧
    wR (m τ h1) (fun y h2 => ∃ y' fs', y = .int y' ∧ insOf h2 (.obj i) = some (i, C, fs') ∧ fs'.length < 1000 ∧ D.N τ (h2.set i (.ins C (putD f (.int (g x y')) fs')))) (fun c xs h1 => D.E c xs τ h1)) (fun c xs h1 => D.E c xs τ h1)) : wS (sFldAugM cs f g mo m τ h) D := by
  refine wS_toS (wR_mono w (fun o h1 w => ?_) fun _ _ _ e => e)
  obtain ⟨i, C, fs, x, e1, e2, e3, w⟩ := w
  simp only [e1, e2, e3, if_true]
  refine wS_toS (wR_mono w (fun y h2 w => ?_) fun _ _ _ e => e)
  obtain ⟨y', fs', rfl, e4, e5, q⟩ := w
  simp only [e4]
  rw [if_pos (by rw [Bool.and_eq_true]; exact ⟨by simp, decide_eq_true e5⟩)]
  with_unfolding_all exact q
theorem wI_enum {ms : MA} {R : List Dv × Gd → MH → Prop} (w : wR (ms τ h) (fun ds h1 => ∃ xs, ds = [.lst xs] ∧ R (enumD xs, .free) h1) E) : wR (iEnumM ms τ h) R E := by
  refine wR_bind (wR_mono w (fun ds h1 w => ?_) fun _ _ _ e => e)
  obtain ⟨xs, rfl, q⟩ := w
  exact wR_ok q
theorem wS_trys {m : MS} {i : Nat} {cs : List ((Str → Bool) × MS)} (w : wS (m τ h) { D with E := fun c xs τ1 h1 => wS (sCatch i c xs τ1 h1 cs) D }) : wS (sTrys m i cs τ h) D := by
  unfold sTrys
  cases e : m τ h with
  | nx τ1 h1 => rw [e] at w; with_unfolding_all exact w
  | rt d h1 => rw [e] at w; with_unfolding_all exact w
  | bk τ1 h1 => rw [e] at w; with_unfolding_all exact w
  | ct τ1 h1 => rw [e] at w; with_unfolding_all exact w
  | stuck => rw [e] at w; with_unfolding_all exact w
  | err c xs τ1 h1 => rw [e] at w; with_unfolding_all exact w
end
/-- a list's cell, one place of it put -/
theorem oSetL_at {h : MH} {i : Nat} {xs : List Dv} {k : Int} {v : Dv} (e : h[i]? = some (.lst xs)) (h1 : 0 ≤ k) (h2 : k < xs.length) : oSetL (.obj i) (.int k) v h = some (h.set i (.lst (xs.set k.toNat v))) := by
  have ec : cellL h (.obj i) = some (i, xs) := by
    show (match h[i]? with
      | some (.lst xs) => some (i, xs)
      | _ => none) = _
    rw [e]
  unfold oSetL
  rw [ec]
  unfold ixN
  simp only
  rw [if_pos h1, if_pos (by omega)]
  rfl
theorem insOf_at {h : MH} {i : Nat} {C : Str} {fs : List (Str × Dv)} (e : h[i]? = some (.ins C fs)) : insOf h (.obj i) = some (i, C, fs) := by
  show (match h[i]? with
    | some (.ins C fs) => some (i, C, fs)
    | _ => none) = _
  rw [e]
theorem rdL_at {h : MH} {i : Nat} {xs : List Dv} (e : h[i]? = some (.lst xs)) : rdL h (.obj i) = some xs := by
  show (match h[i]? with
    | some (.lst xs) => some xs
    | _ => none) = _
  rw [e]
theorem dctOf_at {h : MH} {i : Nat} {xs : List Dv} (e : h[i]? = some (.dct xs)) : dctOf h (.obj i) = some xs := by
  show (match h[i]? with
    | some (.dct xs) => some xs
    | _ => none) = _
  rw [e]
theorem set_at {h : MH} {i : Nat} {c c' : Cell} (e : h[i]? = some c) : (h.set i c')[i]? = some c' := List.getElem?_set_self (List.getElem?_eq_some_iff.mp e).1
theorem set_ne {h : MH} {i j : Nat} {c' : Cell} (n : i ≠ j) : (h.set i c')[j]? = h[j]? := List.getElem?_set_ne n
theorem app_at {h g : MH} {i : Nat} {c : Cell} (e : h[i]? = some c) : (h ++ g)[i]? = some c := by
  rw [List.getElem?_append_left (List.getElem?_eq_some_iff.mp e).1]; exact e
section
variable {α : Type} {τ : MEnv} {h : MH} {g : Gd} {all : List Dv} {mg : MG} {tt : MT} {te tk tv : ME}
/-- nothing changes: a comprehension over what stands for xs -/
theorem lcL_list (em : α → Dv) (p : α → Bool) (f : α → Dv) (hg : g.ok all h = true) : ∀ (l : List α) (acc : List Dv), acc.length + l.length ≤ 16777216 →
    (∀ x ∈ l, ∃ τ1, mg (em x) τ = some τ1 ∧ wR (tt τ1 h) (fun b h' => b = p x ∧ h' = h) nE ∧ (p x = true → wR (te τ1 h) (fun d h' => d = f x ∧ h' = h) nE)) →
    lcL g all mg tt te τ (l.map em) acc h = .ok (.lst (acc ++ (l.filter p).map f)) h
  | [], acc, _, _ => by
    unfold lcL
    rw [List.map_nil]
    simp only
    rw [if_pos hg]
    simp
  | d :: ds, acc, hl, hd => by
    obtain ⟨τ1, e, e1, e2⟩ := hd d List.mem_cons_self
    have e1 := eq_of_wR e1
    rw [List.map_cons]
    unfold lcL
    rw [if_pos hg]
    simp only [e, e1]
    rw [List.length_cons] at hl
    cases hp : p d with
    | false =>
      simp only
      rw [lcL_list em p f hg ds acc (by omega) fun x hx => hd x (List.mem_cons_of_mem _ hx)]
      rw [List.filter_cons_of_neg (by rw [hp]; exact Bool.false_ne_true)]
    | true =>
      have e2 := eq_of_wR (e2 hp)
      simp only [e2]
      have hl' : lineB (acc.length + 1) = true := decide_eq_true (by omega)
      rw [if_pos hl', lcL_list em p f hg ds (acc ++ [f d]) (by rw [List.length_append, List.length_singleton]; omega) fun x hx => hd x (List.mem_cons_of_mem _ hx)]
      rw [List.filter_cons_of_pos hp, List.map_cons, List.append_assoc]
      rfl
theorem dcL_list {β : Type} [DecidableEq β] {mk : List Dv → MH → Res Dv} (κ : Lw.KeyKd β) (ht : κ.t = false) (em : α → Dv) (p : α → Bool) (kf : α → β) (vf : α → Dv) (hg : g.ok all h = true) : ∀ (l : List α) (kvs : List (β × Dv)), kvs.length + l.length ≤ 1000000 →
    (∀ x ∈ l, ∃ τ1, mg (em x) τ = some τ1 ∧ wR (tt τ1 h) (fun b h' => b = p x ∧ h' = h) nE ∧ (p x = true → wR (tk τ1 h) (fun d h' => d = κ.kd (kf x) ∧ h' = h) nE ∧ wR (tv τ1 h) (fun d h' => d = vf x ∧ h' = h) nE)) →
    dcL mk g all mg tt tk tv τ (l.map em) (Lw.dpl κ kvs) h = mk (Lw.dpl κ ((l.filter p).foldl (fun a x => Lw.putA a (kf x) (vf x)) kvs)) h
  | [], kvs, _, _ => by
    rw [List.map_nil]
    unfold dcL
    rw [if_pos hg]
    rfl
  | d :: ds, kvs, hl, hd => by
    obtain ⟨τ1, e, e1, e2⟩ := hd d List.mem_cons_self
    have e1 := eq_of_wR e1
    rw [List.map_cons]
    unfold dcL
    rw [if_pos hg]
    simp only [e, e1]
    rw [List.length_cons] at hl
    cases hp : p d with
    | false =>
      simp only
      rw [dcL_list κ ht em p kf vf hg ds kvs (by omega) fun x hx => hd x (List.mem_cons_of_mem _ hx)]
      rw [List.filter_cons_of_neg (by rw [hp]; exact Bool.false_ne_true)]
    | true =>
      have e3 := eq_of_wR (e2 hp).1
      have e4 := eq_of_wR (e2 hp).2
      simp only [e3, e4, κ.ek]
      have hl' : lineB ((Lw.dpl κ kvs).length + 1) = true := decide_eq_true (by unfold Lw.dpl; rw [List.length_map]; omega)
      cases hk : κ.kk (kf d) with
      | inr k => have := (κ.tk (kf d)).mp ⟨k, hk⟩; rw [ht] at this; cases this
      | inl k =>
        have hp2 := Lw.dput_dpl κ (kvs := kvs) (a := kf d) (v := vf d)
        rw [hk] at hp2
        have pl := Lw.put_len (kvs := kvs) (a := kf d) (v := vf d)
        simp only
        rw [if_pos hl', hp2, dcL_list κ ht em p kf vf hg ds _ (by omega) fun x hx => hd x (List.mem_cons_of_mem _ hx)]
        rw [List.filter_cons_of_pos hp, List.foldl_cons]
end
namespace Lw
theorem wh_int {lo hi i : Int} (h1 : lo ≤ i) (h2 : i ≤ hi) : isWh lo hi (.int i) = true := by
  simp only [isWh, Bool.and_eq_true, decide_eq_true_eq]
  exact ⟨h1, h2⟩
/-- keys that are new, one by one -/
theorem fold_new {α β : Type} [DecidableEq β] (kf : α → β) (vf : α → Dv) : ∀ (l : List α) (kvs : List (β × Dv)), (kvs.map (·.1) ++ l.map kf).Nodup → l.foldl (fun a x => putA a (kf x) (vf x)) kvs = kvs ++ l.map fun x => (kf x, vf x)
  | [], kvs, _ => by simp
  | x :: l, kvs, hn => by
    have hx : lkp kvs (kf x) = none := by
      cases hc : lkp kvs (kf x) with
      | none => rfl
      | some y =>
        have := lkp_mem.mp (show (lkp kvs (kf x)).isSome = true by rw [hc]; rfl)
        rw [List.nodup_append] at hn
        exact absurd rfl (hn.2.2 _ this _ (by simp))
    rw [List.foldl_cons, put_new hx, fold_new kf vf l, List.map_cons, List.append_assoc]
    · rfl
    · rw [List.map_append, List.append_assoc]
      exact hn
theorem look_number_ok {h : MH} {i lo hi : Int} (h1 : lo ≤ i) (h2 : i ≤ hi) : M_look_number [.int i, .int lo, .int hi] h = .ok .non h := (look_number_eq tyd_int).trans (if_pos (wh_int h1 h2))
theorem is_whole_ok {h : MH} {i lo hi : Int} (h1 : lo ≤ i) (h2 : i ≤ hi) : M_is_whole [.int i, .int lo, .int hi] h = .ok (.bl true) h := by rw [is_whole_eq tyd_int, wh_int h1 h2]
theorem nodup_ints {l : List Nat} (h : l.Nodup) : (l.map fun k : Nat => (k : Int)).Nodup := by
  exact List.pairwise_map.mpr (h.imp fun {a b} hab e => hab (Int.ofNat.inj e))
end Lw
end L2.Mi

/-! MpSpans: liarclocks.spans. -/
namespace L2.Mi.Lw
open PySem PySem.Spec PyProof.Rows
noncomputable def M_look_spans : MF := fnM 2 5 (sSeq (sExpr (eCall 3 0 gD_look_number_3 M_look_number (aCons (eVar 1) (aCons (eC (.int 0)) (aCons (eC (.int 5)) (aNil)))) (aNil))) (sSeq (sIf (mOr (mNot (mTest (eOp1 (oIsT "list") (eVar 0)))) (mNot (mTest (eChain oLt oLe (eVar 1) (eOps fLen (aCons (eVar 0) (aNil))) (eC (.int 40)))))) (sRaise "BadWorths") (sNil)) (sFor (iVal (eVar 0)) (mgName 2) (sSeq (sSet 3 (eAnd (eOp1 (oIsT "tuple") (eVar 2)) (eAnd (eOp2 oEq (eOps fLen (aCons (eVar 2) (aNil))) (eC (.int 2))) (eOps fAll (aCons (eLc (iVal (eVar 2)) (mgName 4) (mYes) (eCall 3 0 gD_is_whole_3 M_is_whole (aCons (eVar 4) (aCons (eOp1 oNeg (eC (.int 1000000))) (aCons (eC (.int 1000000)) (aNil)))) (aNil)) [4]) (aNil)))))) (sIf (mOr (mNot (mTest (eVar 3))) (mTest (eOp2 oGt (eOp2 oIx (eVar 2) (eC (.int 0))) (eOp2 oIx (eVar 2) (eC (.int 1)))))) (sRaise "BadWorths") (sNil))))))
def pt_look_spans_2 : List Plc := [.a 0, .a 1]
def gD_look_spans_2 : List Dv → List Dv → List Dv := fun ds zs => plc pt_look_spans_2 ds [] [] zs
@[simp] theorem gE_look_spans_2 (u0 : Dv) (u1 : Dv) : gD_look_spans_2 [u0, u1] [] = [u0, u1] := rfl
noncomputable def M_covers : MF := fnM 2 4 (sSeq (sAsg (eVar 0) (mgTup 2 (mgCons (mgName 2) (mgCons (mgName 3) (mgNil))))) (sRet (eChain oLe oLe (eVar 2) (eVar 1) (eVar 3))))
def pt_covers_2 : List Plc := [.a 0, .a 1]
def gD_covers_2 : List Dv → List Dv → List Dv := fun ds zs => plc pt_covers_2 ds [] [] zs
@[simp] theorem gE_covers_2 (u0 : Dv) (u1 : Dv) : gD_covers_2 [u0, u1] [] = [u0, u1] := rfl
noncomputable def M_fused : MF := fnM 2 7 (sSeq (sExpr (eCall 2 0 gD_look_spans_2 M_look_spans (aCons (eVar 0) (aCons (eVar 1) (aNil))) (aNil))) (sSeq (sSet 2 (eOp2 oSub (eOps fLen (aCons (eVar 0) (aNil))) (eVar 1))) (sSeq (sSet 3 (eSc (iVal (eVar 0)) (mgName 5) (mYes) (bSub (iVal (eVar 5)) (mgName 6) (mYes) (bAdd (eVar 6)) [6]) [5, 6])) (sSeq (sSet 4 (eLc (iVal (eVar 3)) (mgName 6) (mTest (eOp2 oGe (eOps fLen (aCons (eLc (iVal (eVar 0)) (mgName 5) (mTest (eCall 2 0 gD_covers_2 M_covers (aCons (eVar 5) (aCons (eVar 6) (aNil))) (aNil))) (eVar 5) [5]) (aNil))) (eVar 2))) (eVar 6) [6])) (sRet (eIf (mTest (eOp2 oNe (eVar 4) (eOps oLst (aNil)))) (eOps oTup (aCons (eOp2 oIx (eVar 4) (eC (.int 0))) (aCons (eOp2 oIx (eVar 4) (eOp1 oNeg (eC (.int 1)))) (aNil)))) (eC .non)))))))
def pt_fused_1_few : List Plc := [.a 0, .k 0]
def gD_fused_1_few : List Dv → List Dv → List Dv := fun ds zs => plc pt_fused_1_few ds [] [] zs
@[simp] theorem gE_fused_1_few (u0 : Dv) (w0 : Dv) : gD_fused_1_few [u0] [w0] = [u0, w0] := rfl
noncomputable def M_shown_false : MF := fnM 2 6 (sSeq (sSet 2 (eCall 1 1 gD_fused_1_few M_fused (aCons (eVar 0) (aNil)) (aCons (eVar 1) (aNil)))) (sSeq (sIf (mTest (eOp2 oIs (eVar 2) (eC .non))) (sRet (eOps oLst (aNil))) (sNil)) (sSeq (sAsg (eVar 2) (mgTup 2 (mgCons (mgName 3) (mgCons (mgName 4) (mgNil))))) (sRet (eLc (iRange1 (aCons (eOps fLen (aCons (eVar 0) (aNil))) (aNil))) (mgName 5) (mOr (mTest (eOp2 oLt (eOp2 oIx (eOp2 oIx (eVar 0) (eVar 5)) (eC (.int 1))) (eVar 3))) (mTest (eOp2 oGt (eOp2 oIx (eOp2 oIx (eVar 0) (eVar 5)) (eC (.int 0))) (eVar 4)))) (eVar 5) [5])))))
def pt_shown_false_1_few : List Plc := [.a 0, .k 0]
def gD_shown_false_1_few : List Dv → List Dv → List Dv := fun ds zs => plc pt_shown_false_1_few ds [] [] zs
@[simp] theorem gE_shown_false_1_few (u0 : Dv) (w0 : Dv) : gD_shown_false_1_few [u0] [w0] = [u0, w0] := rfl
noncomputable def M_best_points : MF := fnM 1 6 (sSeq (sExpr (eCall 2 0 gD_look_spans_2 M_look_spans (aCons (eVar 0) (aCons (eC (.int 0)) (aNil))) (aNil))) (sSeq (sSet 1 (eSc (iVal (eVar 0)) (mgName 4) (mYes) (bAdd (eOp2 oIx (eVar 4) (eC (.int 0)))) [4])) (sSeq (sSet 2 (eLc (iVal (eVar 1)) (mgName 5) (mYes) (eOps fLen (aCons (eLc (iVal (eVar 0)) (mgName 4) (mTest (eCall 2 0 gD_covers_2 M_covers (aCons (eVar 4) (aCons (eVar 5) (aNil))) (aNil))) (eVar 4) [4]) (aNil))) [5])) (sSeq (sSet 3 (eOps fMax (aCons (eVar 2) (aNil)))) (sRet (eOps oTup (aCons (eVar 3) (aCons (eOp2 oIx (eVar 1) (eMthR gIndex (eVar 2) (aCons (eVar 3) (aNil)))) (aNil)))))))))
def pt_best_points_1 : List Plc := [.a 0]
def gD_best_points_1 : List Dv → List Dv → List Dv := fun ds zs => plc pt_best_points_1 ds [] [] zs
@[simp] theorem gE_best_points_1 (u0 : Dv) : gD_best_points_1 [u0] [] = [u0] := rfl
noncomputable def M_fewest_lies : MF := fnM 1 3 (sSeq (sAsg (eCall 1 0 gD_best_points_1 M_best_points (aCons (eVar 0) (aNil)) (aNil)) (mgTup 2 (mgCons (mgName 1) (mgCons (mgName 2) (mgNil))))) (sRet (eOp2 oSub (eOps fLen (aCons (eVar 0) (aNil))) (eVar 1))))
def pt_fewest_lies_1 : List Plc := [.a 0]
def gD_fewest_lies_1 : List Dv → List Dv → List Dv := fun ds zs => plc pt_fewest_lies_1 ds [] [] zs
@[simp] theorem gE_fewest_lies_1 (u0 : Dv) : gD_fewest_lies_1 [u0] [] = [u0] := rfl
noncomputable def M_depth : MF := fnM 2 3 (sSeq (sExpr (eCall 2 0 gD_look_spans_2 M_look_spans (aCons (eVar 0) (aCons (eC (.int 0)) (aNil))) (aNil))) (sSeq (sIf (mNot (mTest (eCall 3 0 gD_is_whole_3 M_is_whole (aCons (eVar 1) (aCons (eOp1 oNeg (eC (.int 1000000))) (aCons (eC (.int 1000000)) (aNil)))) (aNil)))) (sRaise "BadNumber") (sNil)) (sRet (eOps fLen (aCons (eLc (iVal (eVar 0)) (mgName 2) (mTest (eCall 2 0 gD_covers_2 M_covers (aCons (eVar 2) (aCons (eVar 1) (aNil))) (aNil))) (eVar 2) [2]) (aNil))))))
def pt_depth_2 : List Plc := [.a 0, .a 1]
def gD_depth_2 : List Dv → List Dv → List Dv := fun ds zs => plc pt_depth_2 ds [] [] zs
@[simp] theorem gE_depth_2 (u0 : Dv) (u1 : Dv) : gD_depth_2 [u0, u1] [] = [u0, u1] := rfl

local macro_rules | `(tactic| wtm_at "mi") => `(tactic| first
  | (with_reducible apply wS_seq) | (with_reducible apply wS_set) | (with_reducible apply wS_if) | (with_reducible apply wS_ret) | (with_reducible apply wS_retF) | (with_reducible apply wS_expr) | (with_reducible apply wS_setix) | (with_reducible apply wS_nil) | (with_reducible apply wS_raise) | (with_reducible apply wS_asg) | (with_reducible apply wS_par)
  | ((with_reducible refine' wE_var ?e ?_); (case e => exact rfl)) | (with_reducible apply wE_c) | (with_reducible apply wE_op2) | (with_reducible apply wE_op1) | (with_reducible apply wE_ops) | (with_reducible apply wE_call) | (with_reducible apply wA_cons) | (with_reducible apply wA_nil)
  | (with_reducible apply wE_and) | (with_reducible apply wE_or) | (with_reducible apply wE_not) | (with_reducible apply wE_if) | (with_reducible apply wT_test) | (with_reducible apply wE_chain) | (with_reducible apply wE_sl) | (with_reducible apply wO_none) | (with_reducible apply wO_some)
  | (with_reducible apply wT_and) | (with_reducible apply wT_or) | (with_reducible apply wT_not) | (with_reducible apply wT_yes) | (with_reducible apply wE_mth) | (with_reducible apply wS_for) | (with_reducible apply wI_val) | (with_reducible apply wI_range1) | (with_reducible apply wI_range2) | (with_reducible apply wI_zip) | (with_reducible apply wE_sc) | (with_reducible apply wE_lc)
  | (with_reducible apply wV_add) | (with_reducible apply wV_sub) | (with_reducible apply wV_neg) | (with_reducible apply wV_lt) | (with_reducible apply wV_le) | (with_reducible apply wV_gt) | (with_reducible apply wV_ge) | (with_reducible apply wV_eq) | (with_reducible apply wV_ne)
  | ((with_reducible refine' wV_mul ?c ?_); (case c => omega)) | ((with_reducible refine' wV_mod ?c ?_); (case c => omega)) | ((with_reducible refine' wV_div ?c ?_); (case c => omega)) | ((with_reducible refine' wV_pow ?c ?_); (case c => omega))
  | (with_reducible apply wE_fld) | (with_reducible apply wS_fld) | (with_reducible apply wE_make) | (with_reducible apply wE_obj) | (with_reducible apply wS_try) | (with_reducible apply wE_mthR) | (with_reducible apply wE_dct0) | ((with_reducible refine' wE_isE ?c ?_); (case c => decide)) | (with_reducible apply wV_isNon) | (with_reducible apply wV_isNotNon)
  | (with_reducible refine ⟨_, rfl, ?_⟩) | (dsimp only [List.set_cons_zero, List.set_cons_succ]))
abbrev Sps := List (Int × Int)
def spD (p : Int × Int) : Dv := .tup [.int p.1, .int p.2]
theorem isList_of {h : MH} {d : Dv} {xs : List Dv} (e : rdL h d = some xs) : oIsT "list" d h = .ok (.bl true) h := by
  obtain ⟨t, hk⟩ := tyd_rdL e
  obtain ⟨a, ha⟩ := Option.isSome_iff_exists.mp t
  rw [isT_of ha, (tyN_list ha hk).mpr ⟨_, e⟩]
def InS (s : Int × Int) : Prop := -1000000 ≤ s.1 ∧ s.1 ≤ s.2 ∧ s.2 ≤ 1000000
structure OkS (sps : Sps) : Prop where
  l1 : 1 ≤ sps.length
  l2 : sps.length ≤ 40
  b : ∀ s ∈ sps, InS s
def cov (x : Int) (s : Int × Int) : Bool := decide (s.1 ≤ x ∧ x ≤ s.2)
def dep (sps : Sps) (x : Int) : Nat := (sps.filter (cov x)).length
theorem covers_eq {h : MH} {s : Int × Int} {x : Int} : M_covers [spD s, .int x] h = .ok (.bl (cov x s)) h := by
  apply eq_of_wR
  unfold M_covers spD
  refine wF rfl ?_
  simp only [List.map_cons, List.map_nil, List.replicate_succ, List.replicate_zero, List.cons_append, List.nil_append, Nat.reduceSub]
  repeat' wtm_at "mi"
  refine ⟨fun z => ?_, fun z => ?_⟩
  · have z := of_decide_eq_true z
    repeat' wtm_at "mi"
    exact ⟨by simp [cov, z], rfl⟩
  · have z := of_decide_eq_false z
    exact ⟨by simp [cov, z], rfl⟩
theorem cov_lc {τ : MEnv} {h : MH} {d : Dv} {sps : Sps} {i j kk : Nat} {x : Int} (hd : τ[i]? = some (some d)) (e : rdL h d = some (sps.map spD)) (hk : τ[kk]? = some (some (.int x))) (hkj : j ≠ kk) (hj : j < τ.length) (hl : sps.length ≤ 1000000) :
    eLc (iVal (eVar i)) (mgName j) (mTest (eCall 2 0 gD_covers_2 M_covers (aCons (eVar j) (aCons (eVar kk) aNil)) aNil)) (eVar j) [j] τ h = .ok (.lst ((sps.filter (cov x)).map spD)) h := by
  obtain ⟨g, e1, hg⟩ := asIt_of e
  apply eq_of_wR
  repeat' wtm_at "mi"
  refine wE_var hd ?_
  refine wR_of e1 ?_
  refine wR_of (lcL_pure (fun y => match y with
    | .tup [.int a, .int b] => cov x (a, b)
    | _ => false) (fun y => y) hg _ [] (by simp; omega) fun y hy => ?_) ?_
  · obtain ⟨s, _, rfl⟩ := List.mem_map.mp hy
    have e2 : ((τ.set j none).set j (some (spD s)))[j]? = some (some (spD s)) := by simp [hj]
    have e3 : ((τ.set j none).set j (some (spD s)))[kk]? = some (some (.int x)) := by rw [List.getElem?_set_ne hkj, List.getElem?_set_ne hkj]; exact hk
    refine ⟨_, rfl, eq_of_wR ?_, fun _ => eq_of_wR (wE_var e2 ⟨rfl, rfl⟩)⟩
    apply wT_test
    apply wE_call
    apply wA_cons
    refine wE_var e2 ?_
    apply wA_cons
    refine wE_var e3 ?_
    repeat' wtm_at "mi"
    exact ⟨⟨rfl, rfl⟩, wR_of covers_eq ⟨_, rfl, rfl, rfl⟩⟩
  · refine ⟨?_, rfl⟩
    rw [List.nil_append, List.map_id', List.filter_map]
    rfl
theorem dep_eq {τ : MEnv} {h : MH} {d : Dv} {sps : Sps} {i j kk : Nat} {x : Int} (hd : τ[i]? = some (some d)) (e : rdL h d = some (sps.map spD)) (hk : τ[kk]? = some (some (.int x))) (hkj : j ≠ kk) (hj : j < τ.length) (hl : sps.length ≤ 1000000) :
    eOps fLen (aCons (eLc (iVal (eVar i)) (mgName j) (mTest (eCall 2 0 gD_covers_2 M_covers (aCons (eVar j) (aCons (eVar kk) aNil)) aNil)) (eVar j) [j]) aNil) τ h = .ok (.int (dep sps x)) h := by
  apply eq_of_wR
  apply wE_ops
  apply wA_cons
  refine wR_of (cov_lc hd e hk hkj hj hl) ?_
  repeat' wtm_at "mi"
  refine wR_of (fLen_of rfl) ⟨?_, rfl⟩
  rw [List.length_map]
  rfl
theorem look_spans_ok {h : MH} {d : Dv} {sps : Sps} {f : Nat} (e : rdL h d = some (sps.map spD)) (w : OkS sps) (hf : f ≤ 5) (hl : f < sps.length) : M_look_spans [d, .int f] h = .ok .non h := by
  have h40 := w.l2
  obtain ⟨g, e1, hg⟩ := asIt_of e
  apply eq_of_wR
  unfold M_look_spans
  refine wF rfl ?_
  simp only [List.map_cons, List.map_nil, List.replicate_succ, List.replicate_zero, List.cons_append, List.nil_append, Nat.reduceSub]
  repeat' wtm_at "mi"
  refine ⟨⟨rfl, rfl⟩, wR_of (look_few_ok hf) ?_⟩
  apply wS_seq
  apply if_no
  · apply or_no
    · apply not_no
      repeat' wtm_at "mi"
      exact wR_of (isList_of e) ⟨_, rfl, rfl, rfl⟩
    · apply not_no
      repeat' wtm_at "mi"
      refine wR_of (fLen_of (rdA_of_rdL e)) ?_
      rw [List.length_map]
      repeat' wtm_at "mi"
      refine ⟨fun _ => ?_, fun z => absurd (of_decide_eq_false z) (by omega)⟩
      repeat' wtm_at "mi"
      exact ⟨decide_eq_true (by omega), rfl⟩
  repeat' wtm_at "mi"
  refine wR_of e1 ?_
  refine forL_inv (fun r τ h' => (∀ x ∈ r, ∃ s, x = spD s ∧ InS s) ∧ h' = h ∧ ∃ d2 d3 : Option Dv, τ = [some d, some (.int f), d2, d3, none]) _ ⟨fun x hx => ?_, rfl, none, none, rfl⟩ ?_ ?_
  · obtain ⟨s, hs, rfl⟩ := List.mem_map.mp hx
    exact ⟨s, rfl, w.b s hs⟩
  · rintro x r τ h' ⟨hr, rfl, d2, d3, rfl⟩
    obtain ⟨s, rfl, hs⟩ := hr x List.mem_cons_self
    refine ⟨hg, _, rfl, ?_⟩
    unfold spD
    repeat' wtm_at "mi"
    refine wR_of (isT_of (a := "tuple") rfl) ?_
    repeat' wtm_at "mi"
    refine ⟨fun _ => ?_, fun z => absurd z (by decide)⟩
    repeat' wtm_at "mi"
    refine wR_of (fLen_of (xs := [.int s.1, .int s.2]) rfl) ?_
    repeat' wtm_at "mi"
    refine ⟨fun _ => ?_, fun z => (by simp at z)⟩
    repeat' wtm_at "mi"
    refine wR_of (a := ([.int s.1, .int s.2], Gd.free)) rfl ?_
    refine wR_of (lcL_pure (fun _ => true) (fun _ => .bl true) rfl _ [] (by show 0 + 2 ≤ _; decide) fun y hy => ?_) ?_
    · refine ⟨_, rfl, rfl, fun _ => eq_of_wR ?_⟩
      obtain ⟨z, rfl, hz⟩ : ∃ z : Int, y = .int z ∧ -1000000 ≤ z ∧ z ≤ 1000000 := by
        obtain ⟨b1, b2, b3⟩ := hs
        simp only [List.mem_cons, List.not_mem_nil, or_false] at hy
        rcases hy with rfl | rfl
        · exact ⟨_, rfl, b1, by omega⟩
        · exact ⟨_, rfl, by omega, b3⟩
      repeat' wtm_at "mi"
      refine ⟨⟨rfl, rfl⟩, wR_of (is_whole_eq tyd_int) ⟨?_, rfl⟩⟩
      have : isWh (-1000000) 1000000 (.int z) = true := by
        simp only [isWh, Bool.and_eq_true, decide_eq_true_eq]; exact hz
      rw [this]
    · repeat' wtm_at "mi"
      refine wR_of (fAll_of (xs := [true, true]) rfl) ?_
      repeat' wtm_at "mi"
      refine ⟨fun _ => ?_, fun z => (by cases z)⟩
      repeat' wtm_at "mi"
      refine wV_ix (xs := [.int s.1, .int s.2]) rfl (by decide) rfl ?_
      repeat' wtm_at "mi"
      refine wV_ix (xs := [.int s.1, .int s.2]) rfl (by decide) rfl ?_
      repeat' wtm_at "mi"
      obtain ⟨b1, b2, b3⟩ := hs
      refine ⟨fun z => absurd (of_decide_eq_true z) (by omega), fun _ => ?_⟩
      repeat' wtm_at "mi"
      exact ⟨fun y hy => hr y (List.mem_cons_of_mem _ hy), rfl, _, _, rfl⟩
  · rintro τ h' ⟨_, rfl, d2, d3, rfl⟩
    exact ⟨hg, by simp⟩
def endsN (sps : Sps) : List Int := sortU (sps.flatMap fun s : Int × Int => [s.1, s.2])
def goodN (sps : Sps) (f : Nat) : List Int := (endsN sps).filter fun x => decide ((sps.length : Int) - f ≤ dep sps x)
/-- fused: the first, the last good end -/
def fusN (sps : Sps) (f : Nat) : Option (Int × Int) := match goodN sps f with
  | [] => none
  | x :: xs => some (x, (x :: xs).getLast (by simp))
def fusD (o : Option (Int × Int)) : Dv := match o with
  | none => .non
  | some p => spD p
theorem fused_ok {h : MH} {d : Dv} {sps : Sps} {f : Nat} (e : rdL h d = some (sps.map spD)) (w : OkS sps) (hf : f ≤ 5) (hl : f < sps.length) (h64 : (endsN sps).length < 64) : M_fused [d, .int f] h = .ok (fusD (fusN sps f)) h := by
  have h40 := w.l2
  obtain ⟨g, e1, hg⟩ := asIt_of e
  apply eq_of_wR
  unfold M_fused
  refine wF rfl ?_
  simp only [List.map_cons, List.map_nil, List.replicate_succ, List.replicate_zero, List.cons_append, List.nil_append, Nat.reduceSub]
  repeat' wtm_at "mi"
  refine ⟨⟨rfl, rfl⟩, wR_of (look_spans_ok e w hf hl) ?_⟩
  repeat' wtm_at "mi"
  refine wR_of (fLen_of (rdA_of_rdL e)) ?_
  rw [List.length_map]
  repeat' wtm_at "mi"
  refine wR_of e1 ?_
  have total : (((sps.map spD).filter fun _ => true).flatMap fun x => match x with
      | .tup [.int a, .int b] => [a, b]
      | _ => []) = sps.flatMap fun s : Int × Int => [s.1, s.2] := by
    rw [List.filter_eq_self.mpr (fun _ _ => rfl), List.flatMap_map]
    rfl
  have hlen : (sps.flatMap fun s : Int × Int => [s.1, s.2]).length = 2 * sps.length := by
    clear total hg e1 e w hf hl h64 h40
    induction sps with
    | nil => rfl
    | cons s r ih => rw [List.flatMap_cons, List.length_append, ih]; simp; omega
  refine ⟨sps.flatMap fun s : Int × Int => [s.1, s.2], h, ?_, h64, ?_⟩
  · have sp := scL_pure (g := g) (all := sps.map spD) (mg := mgName 5) (tt := mYes) (bd := bSub (iVal (eVar 5)) (mgName 6) mYes (bAdd (eVar 6)) [6]) (τ := wipeD [some d, some (.int f), some (.int ((sps.length : Int) - f)), none, none, none, none] [5, 6]) (h := h) (fun _ => true) (fun x => match x with
      | .tup [.int a, .int b] => [a, b]
      | _ => []) hg (sps.map spD) [] (by rw [total, hlen]; simp; omega) fun x hx => ?_
    · rw [total] at sp
      exact sp
    · obtain ⟨s, _, rfl⟩ := List.mem_map.mp hx
      refine ⟨_, rfl, rfl, fun _ acc hacc => ?_⟩
      unfold bSub
      have ei : iVal (eVar 5) [some d, some (.int f), some (.int ((sps.length : Int) - f)), none, none, some (spD s), none] h = .ok ([.int s.1, .int s.2], Gd.free) h := rfl
      show (match iVal (eVar 5) [some d, some (.int f), some (.int ((sps.length : Int) - f)), none, none, some (spD s), none] h with
        | .ok p h1 => scL p.2 p.1 (mgName 6) mYes (bAdd (eVar 6)) (wipeD _ [6]) p.1 acc h1
        | _ => .stuck) = _
      rw [ei]
      have hacc : acc.length + 2 ≤ 4000 := hacc
      refine (scL_pure (fun _ => true) (fun x => match x with
        | .int a => [a]
        | _ => []) rfl _ acc hacc fun y hy => ?_)
      simp only [List.mem_cons, List.not_mem_nil, or_false] at hy
      rcases hy with rfl | rfl
      · exact ⟨_, rfl, rfl, fun _ acc2 h2 => bAdd_pure rfl h2⟩
      · exact ⟨_, rfl, rfl, fun _ acc2 h2 => bAdd_pure rfl h2⟩
  show wS _ _
  rw [show sortU (sps.flatMap fun s : Int × Int => [s.1, s.2]) = endsN sps from rfl]
  repeat' wtm_at "mi"
  refine wR_of (a := ((endsN sps).map .int, Gd.free)) rfl ?_
  refine wR_of (lcL_pure (fun y => match y with
    | .int x => decide ((sps.length : Int) - f ≤ dep sps x)
    | _ => false) (fun y => y) rfl _ [] (by simp; omega) fun y hy => ?_) ?_
  · obtain ⟨x, _, rfl⟩ := List.mem_map.mp hy
    refine ⟨_, rfl, eq_of_wR ?_, fun _ => rfl⟩
    apply wT_test
    apply wE_op2
    refine wR_of (dep_eq (d := d) (x := x) rfl e rfl (by decide) (by simp [wipeD]) (by omega)) ?_
    repeat' wtm_at "mi"
    exact ⟨rfl, rfl⟩
  have eg : ([] : List Dv) ++ (((endsN sps).map Dv.int).filter fun y => match y with
    | .int x => decide ((sps.length : Int) - f ≤ dep sps x)
    | _ => false).map (fun y => y) = (goodN sps f).map .int := by
    rw [List.nil_append, List.map_id', List.filter_map]
    rfl
  rw [eg]
  repeat' wtm_at "mi"
  refine wR_of (a := .lst []) rfl ?_
  refine wR_of (oNe_ints (xs := goodN sps f) (ys := []) rfl rfl) ?_
  refine ⟨_, rfl, fun z => ?_, fun z => ?_⟩
  · have z : goodN sps f ≠ [] := by simpa using z
    repeat' wtm_at "mi"
    unfold fusN
    cases hg : goodN sps f with
    | nil => exact absurd hg z
    | cons x xs =>
      refine wV_ix (xs := (x :: xs).map .int) (x := .int x) rfl (by decide) rfl ?_
      repeat' wtm_at "mi"
      refine wR_of (a := .int ((x :: xs).getLast (by simp))) (h := h) ?_ ?_
      · show (match atI ((x :: xs).map Dv.int) (-1) with
          | some d => Res.ok d h
          | none => .stuck) = _
        rw [atI_neg (by simp), List.getLast?_map, List.getLast?_eq_some_getLast (by simp)]
        rfl
      repeat' wtm_at "mi"
      exact wR_of (a := spD (x, (x :: xs).getLast (by simp))) rfl ⟨rfl, rfl⟩
  · have z : goodN sps f = [] := by simpa using z
    repeat' wtm_at "mi"
    refine ⟨?_, rfl⟩
    unfold fusN
    rw [z]
    rfl
/-! ### what is shown false, the deepest point -/
def offS (p s : Int × Int) : Bool := decide (s.2 < p.1) || decide (p.2 < s.1)
def shownN (sps : Sps) (o : Option (Int × Int)) : List Nat := match o with
  | none => []
  | some p => (List.range sps.length).filter fun k => match sps[k]? with
    | some s => offS p s
    | none => false
theorem range_nat (n : Nat) : rangeD 0 (n : Int) = (List.range n).map fun k : Nat => (.int (k : Int) : Dv) := by
  unfold rangeD
  simp
theorem off_lc {τ : MEnv} {h : MH} {d : Dv} {sps : Sps} {i j a b : Nat} {p : Int × Int} (hd : τ[i]? = some (some d)) (e : rdL h d = some (sps.map spD)) (ha : τ[a]? = some (some (.int p.1))) (hb : τ[b]? = some (some (.int p.2))) (hij : j ≠ i) (hja : j ≠ a) (hjb : j ≠ b) (hj : j < τ.length) (hl : sps.length ≤ 1000000) :
    eLc (iRange1 (aCons (eOps fLen (aCons (eVar i) aNil)) aNil)) (mgName j) (mOr (mTest (eOp2 oLt (eOp2 oIx (eOp2 oIx (eVar i) (eVar j)) (eC (.int 1))) (eVar a))) (mTest (eOp2 oGt (eOp2 oIx (eOp2 oIx (eVar i) (eVar j)) (eC (.int 0))) (eVar b)))) (eVar j) [j] τ h =
      .ok (.lst ((shownN sps (some p)).map fun k : Nat => .int k)) h := by
  apply eq_of_wR
  repeat' wtm_at "mi"
  refine wE_var hd ?_
  repeat' wtm_at "mi"
  refine wR_of (fLen_of (rdA_of_rdL e)) ?_
  rw [List.length_map]
  repeat' wtm_at "mi"
  refine ⟨decide_eq_true (by omega), ?_⟩
  rw [range_nat]
  refine wR_of (lcL_pure (fun y => match y with
    | .int z => (match sps[z.toNat]? with
      | some s => offS p s
      | none => false)
    | _ => false) (fun y => y) rfl _ [] (by simp; omega) fun y hy => ?_) ?_
  · obtain ⟨k, hk, rfl⟩ := List.mem_map.mp hy
    have hk := List.mem_range.mp hk
    have n1 : ∀ x : Dv, ((τ.set j none).set j (some x))[j]? = some (some x) := fun x => by simp [hj]
    have n2 : ∀ (x : Dv) {q : Nat} {v : Option Dv}, j ≠ q → τ[q]? = some v → ((τ.set j none).set j (some x))[q]? = some v := fun x {q v} hne hq => by rw [List.getElem?_set_ne hne, List.getElem?_set_ne hne]; exact hq
    have es : sps[k]? = some sps[k] := List.getElem?_eq_getElem hk
    have ix : ∀ {Q E}, Q (spD sps[k]) h → wR (oIx d (.int (k : Int)) h) Q E := fun q => wV_ix (xs := sps.map spD) (rdS_of_rdL e) (by omega) (by rw [List.getElem?_map, show ((k : Int)).toNat = k by omega, es]; rfl) q
    refine ⟨_, rfl, eq_of_wR ?_, fun _ => eq_of_wR (wE_var (n1 _) ⟨rfl, rfl⟩)⟩
    show wR _ (fun b' h' => b' = (match sps[((k : Int)).toNat]? with
      | some s => offS p s
      | none => false) ∧ h' = h) nE
    rw [show ((k : Int)).toNat = k by omega, es]
    apply wT_or
    repeat' wtm_at "mi"
    refine wE_var (n2 _ hij hd) ?_
    refine wE_var (n1 _) ?_
    apply ix
    repeat' wtm_at "mi"
    refine wV_ix (xs := [.int sps[k].1, .int sps[k].2]) rfl (by decide) rfl ?_
    refine wE_var (n2 _ hja ha) ?_
    repeat' wtm_at "mi"
    refine ⟨fun z => ?_, fun z => ⟨by unfold offS; rw [z]; rfl, rfl⟩⟩
    repeat' wtm_at "mi"
    refine wE_var (n2 _ hij hd) ?_
    refine wE_var (n1 _) ?_
    apply ix
    repeat' wtm_at "mi"
    refine wV_ix (xs := [.int sps[k].1, .int sps[k].2]) rfl (by decide) rfl ?_
    refine wE_var (n2 _ hjb hb) ?_
    repeat' wtm_at "mi"
    exact ⟨by unfold offS; rw [z]; rfl, rfl⟩
  · refine ⟨?_, rfl⟩
    rw [List.nil_append, List.map_id', List.filter_map]
    rfl
theorem shown_ok {h : MH} {d : Dv} {sps : Sps} {f : Nat} (e : rdL h d = some (sps.map spD)) (w : OkS sps) (hf : f ≤ 5) (hl : f < sps.length) (h64 : (endsN sps).length < 64) : M_shown_false [d, .int f] h = .ok (.lst ((shownN sps (fusN sps f)).map fun k : Nat => .int k)) h := by
  have h40 := w.l2
  apply eq_of_wR
  unfold M_shown_false
  refine wF rfl ?_
  simp only [List.map_cons, List.map_nil, List.replicate_succ, List.replicate_zero, List.cons_append, List.nil_append, Nat.reduceSub]
  repeat' wtm_at "mi"
  refine ⟨⟨rfl, rfl⟩, wR_of (fused_ok e w hf hl h64) ?_⟩
  cases ho : fusN sps f with
  | none =>
    repeat' wtm_at "mi"
    refine ⟨fun _ => ?_, fun z => (by cases z)⟩
    repeat' wtm_at "mi"
    exact wR_of (a := .lst []) rfl ⟨rfl, rfl⟩
  | some p =>
    repeat' wtm_at "mi"
    refine ⟨fun z => (by cases z), fun _ => ?_⟩
    apply wS_nil
    apply wS_seq
    apply wS_asg
    refine wE_var rfl ?_
    refine ⟨[some d, some (.int f), some (spD p), some (.int p.1), some (.int p.2), none], rfl, ?_⟩
    apply wS_ret
    exact wR_of (off_lc (d := d) (p := p) rfl e rfl rfl (by decide) (by decide) (by decide) (by simp) (by omega)) ⟨rfl, rfl⟩
theorem gIndex_ints (xs : List Int) (b : Int) : gIndex (xs.map .int) [.int b] = (xs.findIdx? fun z => decide (z = b)).map fun j => .int (j : Nat) := by
  have e1 : flatD (.int b) = some (.int b) := rfl
  have e2 : optAll ((xs.map Dv.int).map flatD) = some (xs.map PyData.int) := by
    rw [List.map_map]
    exact optAll_map fun x _ => rfl
  show (match flatD (.int b), optAll ((xs.map Dv.int).map flatD) with
    | some p, some ps => (ps.findIdx? fun z => PyData.eqv z p).map fun j => Dv.int (j : Nat)
    | _, _ => none) = _
  rw [e1, e2]
  simp only
  rw [List.findIdx?_map]
  congr 2
  try (funext z; simp only [Function.comp, eqv_int])
def lowsN (sps : Sps) : List Int := sortU (sps.map (·.1))
structure Best (sps : Sps) (b x : Int) : Prop where
  m : x ∈ lowsN sps
  d : (dep sps x : Int) = b
  top : ∀ y ∈ lowsN sps, (dep sps y : Int) ≤ b
  low : ∀ y ∈ lowsN sps, (dep sps y : Int) = b → x ≤ y
theorem best_ok {h : MH} {d : Dv} {sps : Sps} (e : rdL h d = some (sps.map spD)) (w : OkS sps) (h64 : (lowsN sps).length < 64) : ∃ b x, Best sps b x ∧ M_best_points [d] h = .ok (.tup [.int b, .int x]) h := by
  have h40 := w.l2
  have h1 := w.l1
  obtain ⟨g, e1, hg⟩ := asIt_of e
  have hne : lowsN sps ≠ [] := fun z => by
    cases hs : sps with
    | nil => rw [hs] at h1; simp at h1
    | cons s r =>
      have : s.1 ∈ lowsN sps := sortU_mem.mpr (by rw [hs]; simp)
      rw [z] at this; cases this
  obtain ⟨ds, hds⟩ : ∃ ds, (lowsN sps).map (fun x => (dep sps x : Int)) = ds := ⟨_, rfl⟩
  have dne : ds ≠ [] := fun z => by rw [z] at hds; exact hne (List.map_eq_nil_iff.mp hds)
  have hmem := maxL_mem dne
  obtain ⟨j, hj⟩ : ∃ j, ds.findIdx? (fun z => decide (z = maxL ds)) = some j := by
    cases hi : ds.findIdx? (fun z => decide (z = maxL ds)) with
    | some j => exact ⟨j, rfl⟩
    | none =>
      rw [List.findIdx?_eq_none_iff] at hi
      have := hi _ hmem
      simp at this
  rw [List.findIdx?_eq_some_iff_getElem] at hj
  obtain ⟨hlt, hjv, hjb⟩ := hj
  have hl2 : ds.length = (lowsN sps).length := by rw [← hds, List.length_map]
  have hjv : ds[j] = maxL ds := by simpa using hjv
  have dx : ∀ i (hi : i < (lowsN sps).length), (dep sps (lowsN sps)[i] : Int) = ds[i]'(by omega) := fun i hi => by simp [← hds]
  refine ⟨maxL ds, (lowsN sps)[j]'(by omega), ⟨List.getElem_mem _, by rw [dx]; exact hjv, fun y hy => ?_, fun y hy hyb => ?_⟩, ?_⟩
  · exact le_maxL (by rw [← hds]; exact List.mem_map.mpr ⟨y, hy, rfl⟩)
  · obtain ⟨i, hi, rfl⟩ := List.getElem_of_mem hy
    by_cases hij : i < j
    · have := hjb i hij
      rw [dx] at hyb
      simp [hyb] at this
    · by_cases eij : i = j
      · subst eij; exact Int.le_refl _
      · exact Int.le_of_lt (List.pairwise_iff_getElem.mp (sortU_lt _) j i _ hi (by omega))
  have hj2 : ds.findIdx? (fun z => decide (z = maxL ds)) = some j := by
    rw [List.findIdx?_eq_some_iff_getElem]
    exact ⟨hlt, by simpa using hjv, hjb⟩
  apply eq_of_wR
  unfold M_best_points
  refine wF rfl ?_
  simp only [List.map_cons, List.map_nil, List.replicate_succ, List.replicate_zero, List.cons_append, List.nil_append, Nat.reduceSub]
  repeat' wtm_at "mi"
  refine ⟨⟨rfl, rfl⟩, wR_of (look_spans_ok (f := 0) e w (by decide) (by omega)) ?_⟩
  repeat' wtm_at "mi"
  refine wR_of e1 ?_
  have total : (((sps.map spD).filter fun _ => true).flatMap fun x => match x with
      | .tup [.int a, .int _] => [a]
      | _ => []) = sps.map (·.1) := by
    rw [List.filter_eq_self.mpr (fun _ _ => rfl), List.flatMap_map]
    exact List.flatMap_singleton' (sps.map (·.1)) ▸ by rw [List.flatMap_map]; rfl
  refine ⟨(sps.map fun s : Int × Int => s.1 : List Int), h, ?_, h64, ?_⟩
  · have sp := scL_pure (g := g) (all := sps.map spD) (mg := mgName 4) (tt := mYes) (bd := bAdd (eOp2 oIx (eVar 4) (eC (.int 0)))) (τ := wipeD [some d, none, none, none, none, none] [4]) (h := h) (fun _ => true) (fun x => match x with
      | .tup [.int a, .int _] => [a]
      | _ => []) hg (sps.map spD) [] (by rw [total]; simp; omega) fun x hx => ?_
    · rw [total] at sp
      exact sp
    · obtain ⟨s, _, rfl⟩ := List.mem_map.mp hx
      refine ⟨_, rfl, rfl, fun _ acc hacc => bAdd_pure (eq_of_wR ?_) hacc⟩
      unfold spD
      repeat' wtm_at "mi"
      exact wV_ix (xs := [.int s.1, .int s.2]) rfl (by decide) rfl ⟨rfl, rfl⟩
  rw [show sortU (sps.map (·.1)) = lowsN sps from rfl]
  repeat' wtm_at "mi"
  refine wR_of (a := ((lowsN sps).map .int, Gd.free)) rfl ?_
  refine wR_of (lcL_pure (fun _ => true) (fun y => match y with
    | .int x => .int (dep sps x)
    | _ => .non) rfl _ [] (by simp; omega) fun y hy => ?_) ?_
  · obtain ⟨x, _, rfl⟩ := List.mem_map.mp hy
    exact ⟨_, rfl, rfl, fun _ => dep_eq (d := d) (x := x) rfl e rfl (by decide) (by simp [wipeD]) (by omega)⟩
  have ed : ([] : List Dv) ++ (((lowsN sps).map Dv.int).filter fun _ => true).map (fun y => match y with
    | .int x => .int (dep sps x)
    | _ => .non) = ds.map .int := by
    rw [List.nil_append, List.filter_eq_self.mpr (fun _ _ => rfl), List.map_map, ← hds, List.map_map]
    rfl
  rw [ed]
  repeat' wtm_at "mi"
  refine wR_of (fMax_of (xs := ds) rfl dne) ?_
  repeat' wtm_at "mi"
  refine ⟨⟨_, rfl⟩, ?_⟩
  repeat' wtm_at "mi"
  refine ⟨_, _, rfl, (gIndex_ints ds (maxL ds)).trans (by rw [hj2]; rfl), ?_⟩
  refine wV_ix (xs := (lowsN sps).map .int) (x := .int ((lowsN sps)[j]'(by omega))) rfl (by omega) (by rw [List.getElem?_map, show ((j : Int)).toNat = j by omega, List.getElem?_eq_getElem (by omega)]; rfl) ?_
  repeat' wtm_at "mi"
  exact wR_of (a := .tup [.int (maxL ds), .int ((lowsN sps)[j]'(by omega))]) rfl ⟨rfl, rfl⟩
theorem fewest_of {h : MH} {d : Dv} {sps : Sps} {b x : Int} (e : rdL h d = some (sps.map spD)) (eb : M_best_points [d] h = .ok (.tup [.int b, .int x]) h) : M_fewest_lies [d] h = .ok (.int ((sps.length : Int) - b)) h := by
  apply eq_of_wR
  unfold M_fewest_lies
  refine wF rfl ?_
  simp only [List.map_cons, List.map_nil, List.replicate_succ, List.replicate_zero, List.cons_append, List.nil_append, Nat.reduceSub]
  repeat' wtm_at "mi"
  refine ⟨⟨rfl, rfl⟩, wR_of eb ?_⟩
  refine ⟨[some d, some (.int b), some (.int x)], rfl, ?_⟩
  repeat' wtm_at "mi"
  refine wR_of (fLen_of (rdA_of_rdL e)) ?_
  rw [List.length_map]
  repeat' wtm_at "mi"
  exact ⟨rfl, rfl⟩
theorem depth_ok {h : MH} {d : Dv} {sps : Sps} {x : Int} (e : rdL h d = some (sps.map spD)) (w : OkS sps) (hx : -1000000 ≤ x ∧ x ≤ 1000000) : M_depth [d, .int x] h = .ok (.int (dep sps x)) h := by
  have h40 := w.l2
  apply eq_of_wR
  unfold M_depth
  refine wF rfl ?_
  simp only [List.map_cons, List.map_nil, List.replicate_succ, List.replicate_zero, List.cons_append, List.nil_append, Nat.reduceSub]
  repeat' wtm_at "mi"
  refine ⟨⟨rfl, rfl⟩, wR_of (look_spans_ok (f := 0) e w (by decide) (by have := w.l1; omega)) ?_⟩
  apply wS_seq
  apply if_no
  · apply not_no
    repeat' wtm_at "mi"
    refine ⟨⟨rfl, rfl⟩, wR_of (is_whole_eq tyd_int) ⟨_, rfl, ?_, rfl⟩⟩
    simp only [isWh, Bool.and_eq_true, decide_eq_true_eq]
    exact hx
  apply wS_nil
  apply wS_ret
  exact wR_of (dep_eq (d := d) (x := x) rfl e rfl (by decide) (by simp) (by omega)) ⟨rfl, rfl⟩
end L2.Mi.Lw

/-! MpSpanDraw: spans, foes that are drawn. -/
namespace L2.Mi.Lw
open PySem PySem.Spec PyProof.Rows
noncomputable def M__law_liars : MF := fnM 3 5 (sSeq (sSet 3 (eOps oLstM (aNil))) (sSeq (sFor (iRange1 (aCons (eVar 1) (aNil))) (mgName 4) (sIf (mAnd (mTest (eOp2 oLt (eOps fLen (aCons (eVar 3) (aNil))) (eVar 2))) (mTest (eOp2 oEq (eCall 2 0 gD__law_draw_2 M__law_draw (aCons (eVar 0) (aCons (eC (.int 3)) (aNil))) (aNil)) (eC (.int 0))))) (sExpr (eMth gAppend (eVar 3) (aCons (eVar 4) (aNil)))) (sNil))) (sRetF (eVar 3))))
def pt__law_liars_3 : List Plc := [.a 0, .a 1, .a 2]
def gD__law_liars_3 : List Dv → List Dv → List Dv := fun ds zs => plc pt__law_liars_3 ds [] [] zs
@[simp] theorem gE__law_liars_3 (u0 : Dv) (u1 : Dv) (u2 : Dv) : gD__law_liars_3 [u0, u1, u2] [] = [u0, u1, u2] := rfl
noncomputable def M__law_span : MF := fnM 3 4 (sSeq (sIf (mTest (eVar 2)) (sRet (eOps oTup (aCons (eOp2 oSub (eVar 1) (eCall 2 0 gD__law_draw_2 M__law_draw (aCons (eVar 0) (aCons (eC (.int 9)) (aNil))) (aNil))) (aCons (eOp2 oAdd (eVar 1) (eCall 2 0 gD__law_draw_2 M__law_draw (aCons (eVar 0) (aCons (eC (.int 9)) (aNil))) (aNil))) (aNil))))) (sNil)) (sSeq (sSet 3 (eOps fMax (aCons (eOp2 oSub (eC (.int 0)) (eC (.int 1000000))) (aCons (eOps fMin (aCons (eC (.int 999000)) (aCons (eOp2 oAdd (eVar 1) (eCall 2 0 gD__law_pick_2 M__law_pick (aCons (eVar 0) (aCons (eOps oLst (aCons (eOp2 oSub (eCall 2 0 gD__law_draw_2 M__law_draw (aCons (eVar 0) (aCons (eC (.int 40)) (aNil))) (aNil)) (eC (.int 20))) (aCons (eCall 1 0 gD__law_number_1 M__law_number (aCons (eVar 0) (aNil)) (aNil)) (aNil)))) (aNil))) (aNil))) (aNil)))) (aNil))))) (sRet (eOps oTup (aCons (eVar 3) (aCons (eOp2 oAdd (eVar 3) (eCall 2 0 gD__law_draw_2 M__law_draw (aCons (eVar 0) (aCons (eC (.int 15)) (aNil))) (aNil))) (aNil)))))))
def pt__law_span_3 : List Plc := [.a 0, .a 1, .a 2]
def gD__law_span_3 : List Dv → List Dv → List Dv := fun ds zs => plc pt__law_span_3 ds [] [] zs
@[simp] theorem gE__law_span_3 (u0 : Dv) (u1 : Dv) (u2 : Dv) : gD__law_span_3 [u0, u1, u2] [] = [u0, u1, u2] := rfl
noncomputable def M__law_spans : MF := fnM 4 6 (sSeq (sSet 4 (eCall 3 0 gD__law_liars_3 M__law_liars (aCons (eVar 0) (aCons (eVar 3) (aCons (eVar 2) (aNil)))) (aNil))) (sRet (eOps oTup (aCons (eLc (iRange1 (aCons (eVar 3) (aNil))) (mgName 5) (mYes) (eCall 3 0 gD__law_span_3 M__law_span (aCons (eVar 0) (aCons (eVar 1) (aCons (eOp2 oNotIn (eVar 5) (eVar 4)) (aNil)))) (aNil)) [5]) (aCons (eVar 4) (aNil))))))
def pt__law_spans_4 : List Plc := [.a 0, .a 1, .a 2, .a 3]
def gD__law_spans_4 : List Dv → List Dv → List Dv := fun ds zs => plc pt__law_spans_4 ds [] [] zs
@[simp] theorem gE__law_spans_4 (u0 : Dv) (u1 : Dv) (u2 : Dv) (u3 : Dv) : gD__law_spans_4 [u0, u1, u2, u3] [] = [u0, u1, u2, u3] := rfl

local macro_rules | `(tactic| wtm_at "mi") => `(tactic| first
  | (with_reducible apply wS_seq) | (with_reducible apply wS_set) | (with_reducible apply wS_if) | (with_reducible apply wS_ret) | (with_reducible apply wS_retF) | (with_reducible apply wS_expr) | (with_reducible apply wS_setix) | (with_reducible apply wS_nil) | (with_reducible apply wS_raise) | (with_reducible apply wS_asg) | (with_reducible apply wS_par)
  | ((with_reducible refine' wE_var ?e ?_); (case e => exact rfl)) | (with_reducible apply wE_c) | (with_reducible apply wE_op2) | (with_reducible apply wE_op1) | (with_reducible apply wE_ops) | (with_reducible apply wE_call) | (with_reducible apply wA_cons) | (with_reducible apply wA_nil)
  | (with_reducible apply wE_and) | (with_reducible apply wE_or) | (with_reducible apply wE_not) | (with_reducible apply wE_if) | (with_reducible apply wT_test) | (with_reducible apply wE_chain) | (with_reducible apply wE_sl) | (with_reducible apply wO_none) | (with_reducible apply wO_some)
  | (with_reducible apply wT_and) | (with_reducible apply wT_or) | (with_reducible apply wT_not) | (with_reducible apply wT_yes) | (with_reducible apply wE_mth) | (with_reducible apply wS_for) | (with_reducible apply wI_val) | (with_reducible apply wI_range1) | (with_reducible apply wI_range2) | (with_reducible apply wI_zip) | (with_reducible apply wE_sc) | (with_reducible apply wE_lc)
  | (with_reducible apply wV_add) | (with_reducible apply wV_sub) | (with_reducible apply wV_neg) | (with_reducible apply wV_lt) | (with_reducible apply wV_le) | (with_reducible apply wV_gt) | (with_reducible apply wV_ge) | (with_reducible apply wV_eq) | (with_reducible apply wV_ne)
  | ((with_reducible refine' wV_mul ?c ?_); (case c => omega)) | ((with_reducible refine' wV_mod ?c ?_); (case c => omega)) | ((with_reducible refine' wV_div ?c ?_); (case c => omega)) | ((with_reducible refine' wV_pow ?c ?_); (case c => omega))
  | (with_reducible apply wE_fld) | (with_reducible apply wS_fld) | (with_reducible apply wE_make) | (with_reducible apply wE_obj) | (with_reducible apply wS_try) | (with_reducible apply wE_mthR) | (with_reducible apply wE_dct0) | ((with_reducible refine' wE_isE ?c ?_); (case c => decide)) | (with_reducible apply wV_isNon) | (with_reducible apply wV_isNotNon)
  | (with_reducible refine ⟨_, rfl, ?_⟩) | (dsimp only [List.set_cons_zero, List.set_cons_succ]))
theorem max_two {h : MH} {i j : Int} : fMax [.int i, .int j] h = .ok (.int (max i j)) h := rfl
theorem min_two {h : MH} {i j : Int} : fMin [.int i, .int j] h = .ok (.int (min i j)) h := rfl
structure SpanAt (truth : Int) (s : Int × Int) : Prop where
  a : s.1 ≤ truth
  b : truth ≤ s.2
  c : truth - 8 ≤ s.1
  d : s.2 ≤ truth + 8
theorem span_wp {t : Tw} {rest : MH} {truth : Int} {honest : Bool} {Q : Dv → MH → Prop} {E : QE} (ht : -900000 ≤ truth ∧ truth ≤ 900000)
    (q : ∀ s t', InS s → (honest = true → SpanAt truth s) → Q (spD s) (T t' rest)) : wR (M__law_span [.obj 1, .int truth, .bl honest] (T t rest)) Q E := by
  unfold M__law_span
  refine wF rfl ?_
  simp only [List.map_cons, List.map_nil, List.replicate_succ, List.replicate_zero, List.cons_append, List.nil_append, Nat.reduceSub]
  apply wS_seq
  cases honest with
  | true =>
    apply if_yes
    · repeat' wtm_at "mi"
      exact ⟨rfl, rfl⟩
    repeat' wtm_at "mi"
    refine ⟨⟨rfl, rfl⟩, draw_wp (by decide) (by decide) fun a t1 a1 a2 => ?_⟩
    repeat' wtm_at "mi"
    refine ⟨⟨rfl, rfl⟩, draw_wp (by decide) (by decide) fun b t2 b1 b2 => ?_⟩
    repeat' wtm_at "mi"
    refine wR_of (a := spD (truth - a, truth + b)) rfl (q _ _ ⟨by dsimp only; omega, by dsimp only; omega, by dsimp only; omega⟩ fun _ => ⟨by dsimp only; omega, by dsimp only; omega, by dsimp only; omega, by dsimp only; omega⟩)
  | false =>
    apply if_no
    · repeat' wtm_at "mi"
      exact ⟨rfl, rfl⟩
    repeat' wtm_at "mi"
    refine ⟨⟨rfl, rfl⟩, draw_wp (by decide) (by decide) fun a t1 a1 a2 => ?_⟩
    repeat' wtm_at "mi"
    refine ⟨⟨rfl, rfl⟩, number_wp fun b t2 b1 b2 => ?_⟩
    repeat' wtm_at "mi"
    refine wR_of (a := .lst [.int (a - 20), .int b]) rfl ?_
    repeat' wtm_at "mi"
    refine ⟨⟨rfl, rfl⟩, pickL_wp (by simp) (by show 2 < _; decide) fun y t3 hy => ?_⟩
    obtain ⟨z, rfl⟩ : ∃ z : Int, y = .int z := by
      simp only [List.mem_cons, List.not_mem_nil, or_false] at hy
      rcases hy with rfl | rfl
      · exact ⟨_, rfl⟩
      · exact ⟨_, rfl⟩
    clear hy
    repeat' wtm_at "mi"
    refine wR_of min_two ?_
    repeat' wtm_at "mi"
    refine wR_of max_two ?_
    obtain ⟨lo, hlo, l1, l2⟩ : ∃ lo, max (0 - 1000000) (min 999000 (truth + z)) = lo ∧ -1000000 ≤ lo ∧ lo ≤ 999000 := ⟨_, rfl, by omega, by omega⟩
    rw [hlo]
    repeat' wtm_at "mi"
    refine ⟨⟨rfl, rfl⟩, draw_wp (by decide) (by decide) fun c t4 c1 c2 => ?_⟩
    repeat' wtm_at "mi"
    exact wR_of (a := spD (lo, lo + c)) rfl (q _ _ ⟨by dsimp only; omega, by dsimp only; omega, by dsimp only; omega⟩ fun z => (by cases z))
/-- a comprehension of draws over range(n) -/
theorem lc_range_town {n : Nat} {all : List Dv} {mg : MG} {te : ME} {τ : MEnv} {P : Nat → Dv → Prop} {rest : MH} (hmg : ∀ d, ∃ τ1, mg d τ = some τ1)
    (hte : ∀ k, k < n → ∀ τ1 t (Q : Dv → MH → Prop), mg (.int (k : Nat)) τ = some τ1 → (∀ v t', P k v → Q v (T t' rest)) → wR (te τ1 (T t rest)) Q nE) (hn : n ≤ 1000000) {t : Tw} {Q : Dv → MH → Prop} {E : QE}
    (q : ∀ ys t', ys.length = n → (∀ k y, ys[k]? = some y → P k y) → Q (.lst ys) (T t' rest)) : wR (lcL .free all mg mYes te τ (rangeD 0 n) [] (T t rest)) Q E := by
  have hl := rangeD_len 0 n
  refine lcL_inv (fun r acc h => acc.length + r.length = n ∧ (∀ i d, r[i]? = some d → d = Dv.int ((acc.length + i : Nat) : Int)) ∧ (∀ k y, acc[k]? = some y → P k y) ∧ ∃ t, h = T t rest) _ ⟨by rw [hl]; simp, fun i d hd => ?_, fun k y hy => (by simp at hy), t, rfl⟩ (fun d r acc h i => ?_) (fun acc h i => ?_)
  · unfold rangeD at hd
    rw [List.getElem?_map] at hd
    cases hk : (List.range ((n : Int) - 0).toNat)[i]? with
    | none => rw [hk] at hd; cases hd
    | some k =>
      rw [hk] at hd
      have hk' := (List.getElem?_eq_some_iff.mp hk).2
      rw [List.getElem_range] at hk'
      subst hk'
      cases hd
      simp
  · obtain ⟨i1, i2, i3, t, rfl⟩ := i
    have ed := i2 0 d rfl
    rw [Nat.add_zero] at ed
    subst ed
    rw [List.length_cons] at i1
    obtain ⟨τ1, e⟩ := hmg (.int ((acc.length : Nat) : Int))
    refine ⟨rfl, τ1, e, wT_yes ⟨fun _ => hte acc.length (by omega) τ1 t _ e fun v t' hv => ?_, fun z => (by cases z)⟩⟩
    refine ⟨by omega, by rw [List.length_append, List.length_singleton]; omega, fun i d hd => ?_, fun k y hy => ?_, t', rfl⟩
    · have := i2 (i + 1) d hd
      rw [this, List.length_append, List.length_singleton]
      congr 2
      omega
    · by_cases hk : k < acc.length
      · rw [List.getElem?_append_left hk] at hy
        exact i3 k y hy
      · rw [List.getElem?_append_right (by omega)] at hy
        have hk2 : k - acc.length = 0 := by
          have := (List.getElem?_eq_some_iff.mp hy).1
          rw [List.length_singleton] at this
          omega
        rw [hk2] at hy
        cases hy
        have : k = acc.length := by omega
        rw [this]; exact hv
  · obtain ⟨i1, i2, i3, t, rfl⟩ := i
    exact ⟨rfl, q acc t (by simpa using i1) i3⟩
structure Foes (n : Nat) (most : Nat) (foes : List Int) : Prop where
  l : foes.length ≤ most
  r : foes.Pairwise (· < ·)
  b : ∀ x ∈ foes, 0 ≤ x ∧ x < n
theorem frz_last {t : Tw} {rest : MH} {xs : List Dv} : frzD (.obj (rest.length + 2)) (T t (rest ++ [.lst xs])) = (.lst xs, T t (rest ++ [.dead])) := by
  have e : (T t (rest ++ [.lst xs]))[rest.length + 2]? = some (.lst xs) := by
    show (rest ++ [Cell.lst xs])[rest.length]? = _
    simp
  unfold frzD
  simp only [e]
  have : (T t (rest ++ [.lst xs])).set (rest.length + 2) .dead = T t (rest ++ [.dead]) := by
    show _ :: _ :: ((rest ++ [Cell.lst xs]).set rest.length .dead) = _
    rw [List.set_append_right _ _ (Nat.le_refl _), Nat.sub_self]
    rfl
  rw [this]
theorem liars_wp {t : Tw} {rest : MH} {n most : Nat} {Q : Dv → MH → Prop} {E : QE} (hn : n ≤ 1000000)
    (q : ∀ foes t', Foes n most foes → Q (.lst (foes.map .int)) (T t' (rest ++ [.dead]))) : wR (M__law_liars [.obj 1, .int n, .int most] (T t rest)) Q E := by
  unfold M__law_liars
  refine wF rfl ?_
  simp only [List.map_cons, List.map_nil, List.replicate_succ, List.replicate_zero, List.cons_append, List.nil_append, Nat.reduceSub]
  repeat' wtm_at "mi"
  refine wR_of (a := .obj (rest.length + 2)) (h := T t (rest ++ [.lst []])) rfl ?_
  repeat' wtm_at "mi"
  refine ⟨decide_eq_true (by omega), ?_⟩
  have hl := rangeD_len 0 n
  have at_ : ∀ t c, (T t (rest ++ [c]))[rest.length + 2]? = some c := fun t c => by
    show (rest ++ [c])[rest.length]? = _
    simp
  refine forL_inv (fun r τ h => ∃ (k : Nat) (foes : List Int) (t : Tw) (d4 : Option Dv), k + r.length = n ∧ (∀ i d, r[i]? = some d → d = Dv.int ((k + i : Nat) : Int)) ∧ (foes.length ≤ most ∧ foes.length ≤ k) ∧ foes.Pairwise (· < ·) ∧ (∀ x ∈ foes, 0 ≤ x ∧ x < k) ∧
    h = T t (rest ++ [.lst (foes.map .int)]) ∧ τ = [some (.obj 1), some (.int n), some (.int most), some (.obj (rest.length + 2)), d4]) _ ⟨0, [], t, none, by rw [hl]; simp, ?_, ⟨Nat.zero_le _, Nat.zero_le _⟩, .nil, (fun _ h => nomatch h), rfl, rfl⟩ ?_ ?_
  · intro i d hd
    unfold rangeD at hd
    rw [List.getElem?_map] at hd
    cases hk : (List.range ((n : Int) - 0).toNat)[i]? with
    | none => rw [hk] at hd; cases hd
    | some k =>
      rw [hk] at hd
      have hk' := (List.getElem?_eq_some_iff.mp hk).2
      rw [List.getElem_range] at hk'
      subst hk'
      cases hd
      simp
  · rintro d r τ h ⟨k, foes, t, d4, i1, i2, i3, i4, i5, rfl, rfl⟩
    have ed := i2 0 d rfl
    rw [Nat.add_zero] at ed
    subst ed
    rw [List.length_cons] at i1
    have i2' : ∀ i d, r[i]? = some d → d = Dv.int ((k + 1 + i : Nat) : Int) := fun i d hd => by
      have := i2 (i + 1) d hd
      rw [this]
      congr 2
      omega
    refine ⟨rfl, _, rfl, ?_⟩
    have no : ∀ t', ∃ (k' : Nat) (foes' : List Int) (t'' : Tw) (d4 : Option Dv), k' + r.length = n ∧ (∀ i d, r[i]? = some d → d = Dv.int ((k' + i : Nat) : Int)) ∧ (foes'.length ≤ most ∧ foes'.length ≤ k') ∧ foes'.Pairwise (· < ·) ∧ (∀ x ∈ foes', 0 ≤ x ∧ x < k') ∧
        T t' (rest ++ [Cell.lst (foes.map .int)]) = T t'' (rest ++ [Cell.lst (foes'.map .int)]) ∧ ([some (.obj 1), some (.int n), some (.int most), some (.obj (rest.length + 2)), some (.int (k : Nat))] : MEnv) = [some (.obj 1), some (.int n), some (.int most), some (.obj (rest.length + 2)), d4] :=
      fun t' => ⟨k + 1, foes, t', _, by omega, i2', ⟨i3.1, by omega⟩, i4, fun x hx => ⟨(i5 x hx).1, by have := (i5 x hx).2; omega⟩, rfl, rfl⟩
    repeat' wtm_at "mi"
    refine wR_of (fLen_of (xs := foes.map .int) ?_) ?_
    · show (match (T t (rest ++ [.lst (foes.map .int)]))[rest.length + 2]? with
        | some (.lst xs) => some xs
        | _ => none) = _
      rw [at_]
    rw [List.length_map]
    repeat' wtm_at "mi"
    refine ⟨fun z => ?_, fun _ => ⟨fun z => (by cases z), fun _ => ?_⟩⟩
    · have z := of_decide_eq_true z
      repeat' wtm_at "mi"
      refine ⟨⟨rfl, rfl⟩, draw_wp (by decide) (by decide) fun v t1 v1 v2 => ?_⟩
      repeat' wtm_at "mi"
      refine ⟨fun _ => ?_, fun _ => ?_⟩
      · repeat' wtm_at "mi"
        refine ⟨⟨foes.map .int, ?_⟩, ?_⟩
        · show (match (T t1 (rest ++ [.lst (foes.map .int)]))[rest.length + 2]? with
            | some (.lst xs) => some xs
            | _ => none) = _
          rw [at_]
        repeat' wtm_at "mi"
        refine wR_cell (xs := foes.map .int) (at_ _ _) (gAppend_of (by rw [List.length_map]; have := i3.2; omega)) ?_
        have es : (T t1 (rest ++ [.lst (foes.map .int)])).set (rest.length + 2) (.lst (foes.map .int ++ [.int (k : Nat)])) = T t1 (rest ++ [.lst ((foes ++ [(k : Int)]).map .int)]) := by
          show _ :: _ :: ((rest ++ [Cell.lst (foes.map .int)]).set rest.length _) = _
          rw [List.set_append_right _ _ (Nat.le_refl _), Nat.sub_self, List.map_append]
          rfl
        rw [es]
        refine ⟨k + 1, foes ++ [(k : Int)], t1, _, by omega, i2', by rw [List.length_append, List.length_singleton]; omega, ?_, ?_, rfl, rfl⟩
        · rw [List.pairwise_append]
          refine ⟨i4, by simp, fun x hx y hy => ?_⟩
          rw [List.mem_singleton] at hy
          have := i5 x hx
          omega
        · intro x hx
          rcases List.mem_append.mp hx with m | m
          · have := i5 x m; exact ⟨this.1, by omega⟩
          · rw [List.mem_singleton] at m; omega
      · repeat' wtm_at "mi"
        exact no t1
    · repeat' wtm_at "mi"
      exact no t
  · rintro τ h ⟨k, foes, t, d4, i1, i2, i3, i4, i5, rfl, rfl⟩
    have i1 : k = n := by simpa using i1
    subst i1
    refine ⟨rfl, ?_⟩
    repeat' wtm_at "mi"
    show Q (frzD (.obj (rest.length + 2)) (T t (rest ++ [.lst (foes.map .int)]))).1 (frzD (.obj (rest.length + 2)) (T t (rest ++ [.lst (foes.map .int)]))).2
    rw [frz_last]
    exact q foes t ⟨i3.1, i4, i5⟩
/-- spans of a crew, its foes -/
structure Drawn (truth : Int) (foes : List Int) (sps : Sps) : Prop where
  b : ∀ s ∈ sps, InS s
  h : ∀ (k : Nat) s, sps[k]? = some s → (k : Int) ∉ foes → SpanAt truth s
theorem spans_of {P : Nat → Int × Int → Prop} : ∀ {ys : List Dv}, (∀ k y, ys[k]? = some y → ∃ v, y = spD v ∧ P k v) → ∃ ns : Sps, ys = ns.map spD ∧ ∀ k v, ns[k]? = some v → P k v
  | [], _ => ⟨[], rfl, fun k v h => by simp at h⟩
  | y :: ys, h => by
    obtain ⟨v, rfl, hv⟩ := h 0 y rfl
    obtain ⟨ns, rfl, hn⟩ := spans_of (P := fun k => P (k + 1)) (ys := ys) fun k z hz => h (k + 1) z hz
    refine ⟨v :: ns, rfl, fun k w hw => ?_⟩
    cases k with
    | zero => cases hw; exact hv
    | succ k => exact hn k w hw
theorem spans_wp {t : Tw} {rest : MH} {truth : Int} {n most : Nat} {Q : Dv → MH → Prop} {E : QE} (ht : -900000 ≤ truth ∧ truth ≤ 900000) (hn : n ≤ 1000000)
    (q : ∀ foes sps t', Foes n most foes → sps.length = n → Drawn truth foes sps → Q (.tup [.lst (sps.map spD), .lst (foes.map .int)]) (T t' (rest ++ [.dead]))) : wR (M__law_spans [.obj 1, .int truth, .int most, .int n] (T t rest)) Q E := by
  unfold M__law_spans
  refine wF rfl ?_
  simp only [List.map_cons, List.map_nil, List.replicate_succ, List.replicate_zero, List.cons_append, List.nil_append, Nat.reduceSub]
  repeat' wtm_at "mi"
  refine ⟨⟨rfl, rfl⟩, liars_wp hn fun foes t1 hf => ?_⟩
  repeat' wtm_at "mi"
  refine ⟨decide_eq_true (by omega), ?_⟩
  refine lc_range_town (P := fun k d => ∃ s, d = spD s ∧ InS s ∧ ((k : Int) ∉ foes → SpanAt truth s)) ?_ ?_ hn ?_
  · exact fun d => ⟨_, rfl⟩
  · intro k hk τ1 t Q e hq
    cases e
    repeat' wtm_at "mi"
    refine wR_of (oNotIn_ints (xs := foes) rfl) ?_
    repeat' wtm_at "mi"
    refine ⟨⟨rfl, rfl⟩, span_wp ht fun s t' hs hh => hq _ _ ⟨s, rfl, hs, fun hne => hh ?_⟩⟩
    simp [hne]
  · intro ys t' hl hp
    obtain ⟨sps, rfl, hs⟩ := spans_of (P := fun k s => InS s ∧ ((k : Int) ∉ foes → SpanAt truth s)) hp
    repeat' wtm_at "mi"
    refine wR_of (a := .tup [.lst (sps.map spD), .lst (foes.map .int)]) rfl (q foes sps t' hf (by simpa using hl) ⟨fun s m => ?_, fun k s hk hne => (hs k s hk).2 hne⟩)
    obtain ⟨k, hk, rfl⟩ := List.getElem_of_mem m
    exact (hs k _ (List.getElem?_eq_getElem hk)).1
end L2.Mi.Lw

/-! MpSpanMath: how deep, how wide. -/
namespace L2.Mi.Lw
open PySem PySem.Spec PyProof.Rows
def atS (sps : Sps) (k : Nat) : Int × Int := sps.getD k (0, 0)
theorem atS_get {sps : Sps} {k : Nat} {s : Int × Int} (h : sps[k]? = some s) : atS sps k = s := by
  unfold atS
  rw [List.getD_eq_getElem?_getD, h]; rfl
theorem sps_idx (sps : Sps) : (List.range sps.length).map (atS sps) = sps := by
  refine List.ext_getElem (by simp) fun i h1 h2 => ?_
  rw [List.getElem_map, List.getElem_range]
  exact atS_get (List.getElem?_eq_getElem h2)
theorem dep_idx (sps : Sps) (x : Int) : dep sps x = ((List.range sps.length).filter fun k => cov x (atS sps k)).length := by
  unfold dep
  conv => lhs; rw [← sps_idx sps]
  rw [List.filter_map, List.length_map]
  rfl
theorem two_count {α : Type} (p q : α → Bool) : ∀ l : List α, (l.filter p).length + (l.filter q).length ≤ l.length + ((l.filter q).filter p).length
  | [] => by simp
  | x :: l => by
    have ih := two_count p q l
    cases hp : p x <;> cases hq : q x <;> simp only [List.filter_cons, hp, hq, if_true, if_false, Bool.false_eq_true, List.length_cons] <;> omega
theorem or_count {α : Type} (p q : α → Bool) : ∀ l : List α, (l.filter fun x => p x || q x).length ≤ (l.filter p).length + (l.filter q).length
  | [] => by simp
  | x :: l => by
    have ih := or_count p q l
    cases hp : p x <;> cases hq : q x <;> simp only [List.filter_cons, hp, hq, if_true, if_false, Bool.false_eq_true, Bool.or_self, Bool.or_true, Bool.or_false, List.length_cons] <;> omega
theorem one_at_most {l : List Nat} (h : l.Nodup) (x : Int) : (l.filter fun k : Nat => decide ((k : Int) = x)).length ≤ 1 := by
  have hn := h.filter fun k : Nat => decide ((k : Int) = x)
  match hl : l.filter fun k : Nat => decide ((k : Int) = x) with
  | [] => simp
  | [a] => simp
  | a :: b :: r =>
    exfalso
    have ha : a ∈ l.filter fun k : Nat => decide ((k : Int) = x) := by rw [hl]; simp
    have hb : b ∈ l.filter fun k : Nat => decide ((k : Int) = x) := by rw [hl]; simp
    have ea := of_decide_eq_true (List.mem_filter.mp ha).2
    have eb := of_decide_eq_true (List.mem_filter.mp hb).2
    rw [hl] at hn
    have := (List.nodup_cons.mp hn).1
    exact this (by rw [show a = b by omega]; simp)
theorem foes_len {l : List Nat} (h : l.Nodup) : ∀ foes : List Int, (l.filter fun k : Nat => decide ((k : Int) ∈ foes)).length ≤ foes.length
  | [] => by simp
  | x :: xs => by
    have ih := foes_len h xs
    have h1 := one_at_most h x
    have h2 := or_count (fun k : Nat => decide ((k : Int) = x)) (fun k : Nat => decide ((k : Int) ∈ xs)) l
    have e : (l.filter fun k : Nat => decide ((k : Int) ∈ x :: xs)) = l.filter fun k : Nat => decide ((k : Int) = x) || decide ((k : Int) ∈ xs) := by
      refine List.filter_congr fun k _ => ?_
      simp
    rw [e]
    rw [List.length_cons]
    omega
def honS (foes : List Int) (n : Nat) : List Nat := (List.range n).filter fun k : Nat => decide ((k : Int) ∉ foes)
theorem hon_len (foes : List Int) (n : Nat) : n ≤ (honS foes n).length + foes.length := by
  have h1 := foes_len (List.nodup_range (n := n)) foes
  have h2 : ∀ l : List Nat, l.length ≤ (l.filter fun k : Nat => decide ((k : Int) ∉ foes)).length + (l.filter fun k : Nat => decide ((k : Int) ∈ foes)).length := by
    intro l
    induction l with
    | nil => simp
    | cons a l ih => by_cases e : (a : Int) ∈ foes <;> simp [List.filter_cons, e] at ih ⊢ <;> omega
  have h3 := h2 (List.range n)
  rw [List.length_range] at h3
  unfold honS
  omega
theorem hon_mem {foes : List Int} {n k : Nat} : k ∈ honS foes n ↔ k < n ∧ (k : Int) ∉ foes := by
  unfold honS
  rw [List.mem_filter, List.mem_range, decide_eq_true_eq]
theorem filter_mono {α : Type} {p q : α → Bool} : ∀ {l : List α}, (∀ x ∈ l, p x = true → q x = true) → (l.filter p).length ≤ (l.filter q).length
  | [], _ => by simp
  | x :: l, h => by
    have ih := filter_mono (p := p) (q := q) (l := l) fun y hy => h y (List.mem_cons_of_mem _ hy)
    have hx := h x List.mem_cons_self
    cases hp : p x
    · cases hq : q x <;> simp [List.filter_cons, hp, hq] <;> omega
    · simp [List.filter_cons, hp, hx hp]; omega
section
variable {truth : Int} {foes : List Int} {sps : Sps} {f : Nat}
theorem Drawn.at (w : Drawn truth foes sps) {k : Nat} (h : k ∈ honS foes sps.length) : SpanAt truth (atS sps k) := by
  obtain ⟨h1, h2⟩ := hon_mem.mp h
  have e : sps[k]? = some sps[k] := List.getElem?_eq_getElem h1
  rw [atS_get e]
  exact w.h k _ e h2
theorem hon_dep (w : Drawn truth foes sps) {x : Int} (h : ∀ k ∈ honS foes sps.length, cov x (atS sps k) = true) : (honS foes sps.length).length ≤ dep sps x := by
  rw [dep_idx]
  refine filter_mono fun k hk hp => h k ?_
  exact hon_mem.mpr ⟨List.mem_range.mp hk, of_decide_eq_true hp⟩
theorem ends_mem {x : Int} : x ∈ endsN sps ↔ ∃ s ∈ sps, x = s.1 ∨ x = s.2 := by
  unfold endsN
  rw [sortU_mem, List.mem_flatMap]
  simp
theorem lows_mem {x : Int} : x ∈ lowsN sps ↔ ∃ s ∈ sps, s.1 = x := by
  unfold lowsN
  rw [sortU_mem, List.mem_map]
theorem atS_mem {k : Nat} (h : k < sps.length) : atS sps k ∈ sps := by
  rw [atS_get (List.getElem?_eq_getElem h)]
  exact List.getElem_mem _
theorem low_end (w : Drawn truth foes sps) (hf : foes.length < sps.length) : ∃ e, e ∈ lowsN sps ∧ e ∈ endsN sps ∧ e ≤ truth ∧ sps.length ≤ dep sps e + foes.length := by
  have hl := hon_len foes sps.length
  have hne : (honS foes sps.length).map (fun k => (atS sps k).1) ≠ [] := fun z => by
    rw [List.map_eq_nil_iff] at z
    rw [z] at hl; simp at hl; omega
  have hm := maxL_mem hne
  obtain ⟨k, hk, ek⟩ := List.mem_map.mp hm
  have hk1 := (hon_mem.mp hk).1
  refine ⟨_, lows_mem.mpr ⟨_, atS_mem hk1, ek⟩, ends_mem.mpr ⟨_, atS_mem hk1, .inl ek.symm⟩, by rw [← ek]; exact (w.at hk).a, ?_⟩
  have := hon_dep w (x := maxL ((honS foes sps.length).map fun k => (atS sps k).1)) fun j hj => by
    refine decide_eq_true ⟨le_maxL (List.mem_map.mpr ⟨j, hj, rfl⟩), ?_⟩
    rw [← ek]
    have h1 := (w.at hk).a
    have h2 := (w.at hj).b
    omega
  omega
theorem high_end (w : Drawn truth foes sps) (hf : foes.length < sps.length) : ∃ e, e ∈ endsN sps ∧ truth ≤ e ∧ sps.length ≤ dep sps e + foes.length := by
  have hl := hon_len foes sps.length
  have hne : (honS foes sps.length).map (fun k => (atS sps k).2) ≠ [] := fun z => by
    rw [List.map_eq_nil_iff] at z
    rw [z] at hl; simp at hl; omega
  have hm := minL_mem hne
  obtain ⟨k, hk, ek⟩ := List.mem_map.mp hm
  have hk1 := (hon_mem.mp hk).1
  refine ⟨_, ends_mem.mpr ⟨_, atS_mem hk1, .inr ek.symm⟩, by rw [← ek]; exact (w.at hk).b, ?_⟩
  have := hon_dep w (x := minL ((honS foes sps.length).map fun k => (atS sps k).2)) fun j hj => by
    refine decide_eq_true ⟨?_, minL_le (List.mem_map.mpr ⟨j, hj, rfl⟩)⟩
    rw [← ek]
    have h1 := (w.at hk).b
    have h2 := (w.at hj).a
    omega
  omega
theorem good_mem {x : Int} : x ∈ goodN sps f ↔ x ∈ endsN sps ∧ (sps.length : Int) - f ≤ dep sps x := by
  unfold goodN
  rw [List.mem_filter, decide_eq_true_eq]
theorem good_lt : (goodN sps f).Pairwise (· < ·) := (sortU_lt _).sublist List.filter_sublist
theorem last_ge : ∀ {l : List Int} (h : l ≠ []), l.Pairwise (· < ·) → ∀ x ∈ l, x ≤ l.getLast h
  | [a], _, _, x, hx => by rw [List.mem_singleton] at hx; rw [hx]; exact Int.le_refl _
  | a :: b :: l, _, hp, x, hx => by
    obtain ⟨h1, h2⟩ := List.pairwise_cons.mp hp
    have ih := last_ge (l := b :: l) (by simp) h2
    rw [List.getLast_cons (by simp)]
    rcases List.mem_cons.mp hx with rfl | hx
    · have := h1 b (by simp)
      have := ih b (by simp)
      omega
    · exact ih x hx
structure Fus (sps : Sps) (f : Nat) (p : Int × Int) : Prop where
  e : fusN sps f = some p
  a : p.1 ∈ goodN sps f
  b : p.2 ∈ goodN sps f
  all : ∀ x ∈ goodN sps f, p.1 ≤ x ∧ x ≤ p.2
theorem fus_of (h : goodN sps f ≠ []) : ∃ p, Fus sps f p := by
  have lt := good_lt (sps := sps) (f := f)
  cases hg : goodN sps f with
  | nil => exact absurd hg h
  | cons x xs =>
    rw [hg] at lt
    refine ⟨(x, (x :: xs).getLast (by simp)), ?_, by rw [hg]; simp, by rw [hg]; exact List.getLast_mem _, ?_⟩
    · unfold fusN
      rw [hg]
    · rw [hg]
      intro y hy
      refine ⟨?_, last_ge _ lt y hy⟩
      rcases List.mem_cons.mp hy with rfl | hy
      · exact Int.le_refl _
      · exact Int.le_of_lt ((List.pairwise_cons.mp lt).1 y hy)
theorem fus_truth (w : Drawn truth foes sps) (hf : foes.length ≤ f) (hn : f < sps.length) : ∃ p, Fus sps f p ∧ p.1 ≤ truth ∧ truth ≤ p.2 := by
  obtain ⟨e1, _, a2, a3, a4⟩ := low_end w (by omega)
  obtain ⟨e2, b2, b3, b4⟩ := high_end w (by omega)
  have g1 : e1 ∈ goodN sps f := good_mem.mpr ⟨a2, by omega⟩
  have g2 : e2 ∈ goodN sps f := good_mem.mpr ⟨b2, by omega⟩
  obtain ⟨p, hp⟩ := fus_of (List.ne_nil_of_mem g1)
  exact ⟨p, hp, by have := (hp.all _ g1).1; omega, by have := (hp.all _ g2).2; omega⟩
/-- one span over both ends -/
theorem both_ends {p : Int × Int} (h : Fus sps f p) (hn : 2 * f < sps.length) : ∃ k, k < sps.length ∧ (atS sps k).1 ≤ p.1 ∧ p.2 ≤ (atS sps k).2 := by
  have h1 := (good_mem.mp h.a).2
  have h2 := (good_mem.mp h.b).2
  rw [dep_idx] at h1 h2
  have h3 := two_count (fun k => cov p.1 (atS sps k)) (fun k => cov p.2 (atS sps k)) (List.range sps.length)
  rw [List.length_range] at h3
  have hpos : 0 < (((List.range sps.length).filter fun k => cov p.2 (atS sps k)).filter fun k => cov p.1 (atS sps k)).length := by omega
  obtain ⟨k, hk⟩ := List.exists_mem_of_length_pos hpos
  rw [List.mem_filter, List.mem_filter, List.mem_range] at hk
  exact ⟨k, hk.1.1, (of_decide_eq_true hk.2).1, (of_decide_eq_true hk.1.2).2⟩
theorem both_honest {p : Int × Int} (h : Fus sps f p) (hf : foes.length ≤ f) (hn : 3 * f < sps.length) : ∃ k ∈ honS foes sps.length, (atS sps k).1 ≤ p.1 ∧ p.2 ≤ (atS sps k).2 := by
  have h1 := (good_mem.mp h.a).2
  have h2 := (good_mem.mp h.b).2
  rw [dep_idx] at h1 h2
  have hl := hon_len foes sps.length
  have c1 := two_count (fun k => cov p.1 (atS sps k)) (fun k : Nat => decide ((k : Int) ∉ foes)) (List.range sps.length)
  have c2 := two_count (fun k => cov p.2 (atS sps k)) (fun k : Nat => decide ((k : Int) ∉ foes)) (List.range sps.length)
  have e : (List.range sps.length).filter (fun k : Nat => decide ((k : Int) ∉ foes)) = honS foes sps.length := rfl
  rw [e, List.length_range] at c1 c2
  have c3 := two_count (fun k => cov p.1 (atS sps k)) (fun k => cov p.2 (atS sps k)) (honS foes sps.length)
  have hpos : 0 < (((honS foes sps.length).filter fun k => cov p.2 (atS sps k)).filter fun k => cov p.1 (atS sps k)).length := by omega
  obtain ⟨k, hk⟩ := List.exists_mem_of_length_pos hpos
  rw [List.mem_filter, List.mem_filter] at hk
  exact ⟨k, hk.1.1, (of_decide_eq_true hk.2).1, (of_decide_eq_true hk.1.2).2⟩
theorem shown_foes {p : Int × Int} (w : Drawn truth foes sps) (h1 : p.1 ≤ truth) (h2 : truth ≤ p.2) : ∀ k ∈ shownN sps (some p), (k : Int) ∈ foes := by
  intro k hk
  unfold shownN at hk
  rw [List.mem_filter, List.mem_range] at hk
  obtain ⟨hk, ho⟩ := hk
  rw [List.getElem?_eq_getElem hk] at ho
  refine Decidable.byContradiction fun hne => ?_
  have s := w.h k _ (List.getElem?_eq_getElem hk) hne
  have s1 := s.a
  have s2 := s.b
  simp only [offS, Bool.or_eq_true, decide_eq_true_eq] at ho
  omega
theorem ends_len : (endsN sps).length ≤ 2 * sps.length := by
  have h := sortU_le (sps.flatMap fun s : Int × Int => [s.1, s.2])
  have e : (sps.flatMap fun s : Int × Int => [s.1, s.2]).length = 2 * sps.length := by
    clear h
    induction sps with
    | nil => rfl
    | cons s r ih => rw [List.flatMap_cons, List.length_append, ih]; simp; omega
  unfold endsN
  omega
theorem lows_len : (lowsN sps).length ≤ sps.length := by
  have h := sortU_le (sps.map fun s : Int × Int => s.1)
  rw [List.length_map] at h
  exact h
end
end L2.Mi.Lw

/-! MpBetween: few lies leave the middle ones between the honest ones. -/
namespace L2.Mi.Lw
open PySem PySem.Spec PyProof.Rows
/-- how many are above, below -/
def aboveN (M : Int) (xs : List Int) : Nat := (xs.filter fun x => decide (M < x)).length
def belowN (m : Int) (xs : List Int) : Nat := (xs.filter fun x => decide (x < m)).length
theorem aboveN_perm {M : Int} {xs ys : List Int} (p : xs.Perm ys) : aboveN M xs = aboveN M ys := (p.filter _).length_eq
theorem belowN_perm {M : Int} {xs ys : List Int} (p : xs.Perm ys) : belowN M xs = belowN M ys := (p.filter _).length_eq
theorem aboveN_append {M : Int} (xs ys : List Int) : aboveN M (xs ++ ys) = aboveN M xs + aboveN M ys := by unfold aboveN; rw [List.filter_append, List.length_append]
theorem belowN_append {M : Int} (xs ys : List Int) : belowN M (xs ++ ys) = belowN M xs + belowN M ys := by unfold belowN; rw [List.filter_append, List.length_append]
theorem aboveN_le {M : Int} (xs : List Int) : aboveN M xs ≤ xs.length := List.length_filter_le _ _
theorem belowN_le {M : Int} (xs : List Int) : belowN M xs ≤ xs.length := List.length_filter_le _ _
theorem aboveN_zero {M : Int} {xs : List Int} (h : ∀ x ∈ xs, x ≤ M) : aboveN M xs = 0 := by
  unfold aboveN
  rw [List.length_eq_zero_iff, List.filter_eq_nil_iff]
  intro x hx
  have := h x hx
  simp only [decide_eq_true_eq]
  omega
theorem belowN_zero {M : Int} {xs : List Int} (h : ∀ x ∈ xs, M ≤ x) : belowN M xs = 0 := by
  unfold belowN
  rw [List.length_eq_zero_iff, List.filter_eq_nil_iff]
  intro x hx
  have := h x hx
  simp only [decide_eq_true_eq]
  omega
theorem sorted_le_of {s : List Int} (h : s.Pairwise (· ≤ ·)) {M : Int} {i : Nat} (hi : i < s.length) (hc : aboveN M s < s.length - i) : s[i] ≤ M := by
  refine Int.not_lt.mp fun z => ?_
  have e : s = s.take i ++ s.drop i := (List.take_append_drop i s).symm
  have e2 : (s.drop i).filter (fun x => decide (M < x)) = s.drop i := by
    rw [List.filter_eq_self]
    intro x hx
    obtain ⟨j, hj, rfl⟩ := List.getElem_of_mem hx
    rw [List.getElem_drop]
    rw [List.length_drop] at hj
    have := sorted_get h (i := i) (j := i + j) (by omega) (by omega)
    simp only [decide_eq_true_eq]
    omega
  have e3 : aboveN M s = aboveN M (s.take i) + (s.drop i).length := by
    have := aboveN_append (M := M) (s.take i) (s.drop i)
    rw [← e] at this
    rw [this]
    congr 1
    unfold aboveN
    rw [e2]
  rw [List.length_drop] at e3
  omega
theorem sorted_ge_of {s : List Int} (h : s.Pairwise (· ≤ ·)) {m : Int} {i : Nat} (hi : i < s.length) (hc : belowN m s ≤ i) : m ≤ s[i] := by
  refine Int.not_lt.mp fun z => ?_
  have e : s = s.take (i + 1) ++ s.drop (i + 1) := (List.take_append_drop (i + 1) s).symm
  have e2 : (s.take (i + 1)).filter (fun x => decide (x < m)) = s.take (i + 1) := by
    rw [List.filter_eq_self]
    intro x hx
    obtain ⟨j, hj, rfl⟩ := List.getElem_of_mem hx
    rw [List.getElem_take]
    rw [List.length_take] at hj
    have := sorted_get h (i := j) (j := i) (by omega) (by omega)
    simp only [decide_eq_true_eq]
    omega
  have e3 : belowN m s = (s.take (i + 1)).length + belowN m (s.drop (i + 1)) := by
    have := belowN_append (M := m) (s.take (i + 1)) (s.drop (i + 1))
    rw [← e] at this
    rw [this]
    congr 1
    unfold belowN
    rw [e2]
  rw [List.length_take] at e3
  omega
/-- at most c of them are above hi, at most c below lo -/
structure Few (lo hi : Int) (c : Nat) (xs : List Int) : Prop where
  a : aboveN hi xs ≤ c
  b : belowN lo xs ≤ c
theorem Few.at {lo hi : Int} {c : Nat} {xs : List Int} (w : Few lo hi c xs) {i : Nat} (h1 : c ≤ i) (h2 : i + c < xs.length) (hi' : i < (sortI xs).length) : lo ≤ (sortI xs)[i] ∧ (sortI xs)[i] ≤ hi := by
  have hl := sortI_len xs
  refine ⟨sorted_ge_of (sortI_le xs) _ ?_, sorted_le_of (sortI_le xs) _ ?_⟩
  · rw [belowN_perm (sortI_perm xs)]
    exact Nat.le_trans w.b h1
  · rw [aboveN_perm (sortI_perm xs)]
    have := w.a
    omega
theorem Few.left {lo hi : Int} {c f : Nat} {xs : List Int} (w : Few lo hi c xs) (hc : c ≤ f) (hf : 2 * f < xs.length) : ∀ x ∈ leftN xs f, lo ≤ x ∧ x ≤ hi := by
  intro x hx
  have hx' : x ∈ ((sortI xs).drop f).take (xs.length - 2 * f) := hx
  obtain ⟨i, hi', rfl⟩ := List.getElem_of_mem hx'
  have hl2 := sortI_len xs
  rw [List.getElem_take, List.getElem_drop]
  rw [List.length_take, List.length_drop] at hi'
  exact w.at (by omega) (by omega) _
theorem Few.mid {lo hi : Int} {c f : Nat} {xs : List Int} (w : Few lo hi c xs) (hc : c ≤ f) (hf : 2 * f < xs.length) : lo ≤ midN xs f ∧ midN xs f ≤ hi := by
  have hl := leftN_len hf
  have hw := w.left hc hf
  unfold midN
  have hn : leftN xs f ≠ [] := fun z => by rw [z] at hl; simp at hl; omega
  cases h1 : (leftN xs f).head? with
  | none => rw [List.head?_eq_none_iff] at h1; exact absurd h1 hn
  | some a =>
    cases h2 : (leftN xs f).getLast? with
    | none => rw [List.getLast?_eq_none_iff] at h2; exact absurd h2 hn
    | some b =>
      have := hw a (List.mem_of_head? h1)
      have := hw b (List.mem_of_getLast? h2)
      simp only [Option.getD_some]
      omega
theorem sum_between {lo hi : Int} : ∀ {xs : List Int}, (∀ x ∈ xs, lo ≤ x ∧ x ≤ hi) → lo * xs.length ≤ xs.sum ∧ xs.sum ≤ hi * xs.length
  | [], _ => by simp
  | x :: xs, h => by
    have h1 := h x List.mem_cons_self
    have ih := sum_between fun y hy => h y (List.mem_cons_of_mem x hy)
    rw [List.sum_cons, List.length_cons]
    have e1 : lo * ((xs.length + 1 : Nat) : Int) = lo * xs.length + lo := by rw [Int.natCast_succ, Int.mul_add, Int.mul_one]
    have e2 : hi * ((xs.length + 1 : Nat) : Int) = hi * xs.length + hi := by rw [Int.natCast_succ, Int.mul_add, Int.mul_one]
    omega
theorem mean_between {lo hi : Int} {xs : List Int} (hn : xs ≠ []) (h : ∀ x ∈ xs, lo ≤ x ∧ x ≤ hi) : lo ≤ xs.sum / xs.length ∧ xs.sum / xs.length ≤ hi := by
  have hl : 0 < (xs.length : Int) := by have := List.length_pos_iff.mpr hn; omega
  obtain ⟨h1, h2⟩ := sum_between h
  refine ⟨Int.le_ediv_of_mul_le hl h1, ?_⟩
  have := Int.ediv_le_ediv hl h2
  rw [Int.mul_ediv_cancel _ (by omega)] at this
  exact this
theorem Few.med {lo hi : Int} {c : Nat} {xs : List Int} (w : Few lo hi c xs) (hc : 2 * c < xs.length) : lo ≤ medN xs ∧ medN xs ≤ hi := by
  rw [medN_get (by omega)]
  exact w.at (by omega) (by omega) _
theorem Few.of_honest {hs : List Int} : Few (minL hs) (maxL hs) 0 hs :=
  ⟨Nat.le_of_eq (aboveN_zero fun _ h => le_maxL h), Nat.le_of_eq (belowN_zero fun _ h => minL_le h)⟩
theorem Few.perm {lo hi : Int} {c : Nat} {xs ys : List Int} (w : Few lo hi c xs) (p : xs.Perm ys) : Few lo hi c ys := ⟨by rw [← aboveN_perm p]; exact w.a, by rw [← belowN_perm p]; exact w.b⟩
theorem Few.app {lo hi : Int} {c : Nat} {xs : List Int} (w : Few lo hi c xs) (ys : List Int) : Few lo hi (c + ys.length) (xs ++ ys) :=
  ⟨by rw [aboveN_append]; have := aboveN_le (M := hi) ys; have := w.a; omega, by rw [belowN_append]; have := belowN_le (M := lo) ys; have := w.b; omega⟩
theorem insert_perm (xs : List Int) (i : Nat) (y : Int) : (xs ++ [y]).Perm (xs.take i ++ [y] ++ xs.drop i) := by
  have h : (xs.take i ++ xs.drop i ++ [y]).Perm (xs.take i ++ [y] ++ xs.drop i) := by
    rw [List.append_assoc, List.append_assoc]
    exact List.Perm.append_left _ List.perm_append_comm
  rw [List.take_append_drop] at h
  exact h
theorem Few.ins {lo hi : Int} {c : Nat} {xs : List Int} (w : Few lo hi c xs) (i : Nat) (y : Int) : Few lo hi (c + 1) (xs.take i ++ [y] ++ xs.drop i) := (w.app [y]).perm (insert_perm xs i y)
end L2.Mi.Lw

/-! MpMeet: liarclocks.meeting. -/
namespace L2.Mi.Lw
open PySem PySem.Spec PyProof.Rows
noncomputable def M__law_pair : MF := fnM 1 2 (sSeq (sSet 1 (eCall 2 0 gD__law_draw_2 M__law_draw (aCons (eVar 0) (aCons (eC (.int 3)) (aNil))) (aNil))) (sRet (eOps oTup (aCons (eVar 1) (aCons (eOp2 oAdd (eOp2 oAdd (eOp2 oMul (eC (.int 3)) (eVar 1)) (eC (.int 1))) (eCall 2 0 gD__law_draw_2 M__law_draw (aCons (eVar 0) (aCons (eC (.int 4)) (aNil))) (aNil))) (aNil))))))
def pt__law_pair_1 : List Plc := [.a 0]
def gD__law_pair_1 : List Dv → List Dv → List Dv := fun ds zs => plc pt__law_pair_1 ds [] [] zs
@[simp] theorem gE__law_pair_1 (u0 : Dv) : gD__law_pair_1 [u0] [] = [u0] := rfl
noncomputable def M_look_liars : MF := fnM 3 5 (sSeq (sSet 3 (eAnd (eOp1 (oIsT2 "list" "tuple") (eVar 0)) (eOp2 oLe (eOps fLen (aCons (eVar 0) (aNil))) (eVar 2)))) (sIf (mOr (mNot (mTest (eVar 3))) (mOr (mNot (mTest (eOps fAll (aCons (eLc (iVal (eVar 0)) (mgName 4) (mYes) (eCall 3 0 gD_is_whole_3 M_is_whole (aCons (eVar 4) (aCons (eC (.int 0)) (aCons (eOp2 oSub (eVar 1) (eC (.int 1))) (aNil)))) (aNil)) [4]) (aNil))))) (mTest (eOp2 oNe (eOps fSortSet (aCons (eVar 0) aNil)) (eOps fList (aCons (eVar 0) (aNil))))))) (sRaise "BadHouses") (sNil)))
def pt_look_liars_3 : List Plc := [.a 0, .a 1, .a 2]
def gD_look_liars_3 : List Dv → List Dv → List Dv := fun ds zs => plc pt_look_liars_3 ds [] [] zs
@[simp] theorem gE_look_liars_3 (u0 : Dv) (u1 : Dv) (u2 : Dv) : gD_look_liars_3 [u0, u1, u2] [] = [u0, u1, u2] := rfl
noncomputable def M_Meeting___init__ : MF := fnM 4 4 (sSeq (sExpr (eCall 1 0 gD_look_worths_1 M_look_worths (aCons (eVar 1) (aNil)) (aNil))) (sSeq (sExpr (eCall 3 0 gD_look_number_3 M_look_number (aCons (eVar 2) (aCons (eC (.int 0)) (aCons (eC (.int 5)) (aNil)))) (aNil))) (sSeq (sIf (mOr (mTest (eOp2 oGt (eOps fLen (aCons (eVar 1) (aNil))) (eC (.int 16)))) (mTest (eOp2 oLe (eOps fLen (aCons (eVar 1) (aNil))) (eOp2 oMul (eC (.int 2)) (eVar 2))))) (sRaise "BadHouses") (sNil)) (sSeq (sExpr (eCall 3 0 gD_look_liars_3 M_look_liars (aCons (eVar 3) (aCons (eOps fLen (aCons (eVar 1) (aNil))) (aCons (eVar 2) (aNil)))) (aNil))) (sSeq (sFldSet ["Meeting"] "numbers" (eOps fListM (aCons (eVar 1) (aNil))) (eVar 0)) (sSeq (sFldSet ["Company", "Echo", "Meeting", "Post", "Pulse", "TimedPulse", "Track"] "few" (eVar 2) (eVar 0)) (sSeq (sFldSet ["Book", "Company", "Echo", "Meeting", "Post", "Pulse", "TimedPulse"] "liars" (eOps fList (aCons (eVar 3) (aNil))) (eVar 0)) (sFldSet ["Meeting"] "count" (eC (.int 0)) (eVar 0)))))))))
def pt_Meeting___init___2_few_liars : List Plc := [.a 0, .a 1, .k 0, .k 1]
def gD_Meeting___init___2_few_liars : List Dv → List Dv → List Dv := fun ds zs => plc pt_Meeting___init___2_few_liars ds [] [] zs
@[simp] theorem gE_Meeting___init___2_few_liars (u0 : Dv) (u1 : Dv) (w0 : Dv) (w1 : Dv) : gD_Meeting___init___2_few_liars [u0, u1] [w0, w1] = [u0, u1, w0, w1] := rfl
noncomputable def M_rounds_for : MF := fnM 2 3 (sSeq (sExpr (eCall 3 0 gD_look_number_3 M_look_number (aCons (eVar 0) (aCons (eC (.int 0)) (aCons (eOp2 oMul (eC (.int 2)) (eC (.int 1000000))) (aNil)))) (aNil))) (sSeq (sExpr (eCall 3 0 gD_look_number_3 M_look_number (aCons (eVar 1) (aCons (eC (.int 1)) (aCons (eOp2 oMul (eC (.int 2)) (eC (.int 1000000))) (aNil)))) (aNil))) (sSeq (sSet 2 (eC (.int 0))) (sSeq (sWhile (mTest (eOp2 oGt (eVar 0) (eVar 1))) (sSeq (sSet 0 (eOp2 oDiv (eOp2 oAdd (eVar 0) (eC (.int 1))) (eC (.int 2)))) (sSet 2 (eOp2 oAdd (eVar 2) (eC (.int 1)))))) (sRet (eVar 2))))))
def pt_rounds_for_1 : List Plc := [.a 0, .t 0]
def gD_rounds_for_1 : List Dv → List Dv → List Dv := fun ds zs => plc pt_rounds_for_1 ds [.int 1] [] zs
@[simp] theorem gE_rounds_for_1 (u0 : Dv) : gD_rounds_for_1 [u0] [] = [u0, (.int 1)] := rfl
def pt_rounds_for_2 : List Plc := [.a 0, .a 1]
def gD_rounds_for_2 : List Dv → List Dv → List Dv := fun ds zs => plc pt_rounds_for_2 ds [.int 1] [] zs
@[simp] theorem gE_rounds_for_2 (u0 : Dv) (u1 : Dv) : gD_rounds_for_2 [u0, u1] [] = [u0, u1] := rfl
noncomputable def M_Meeting_honest : MF := fnM 1 2 (sRet (eLc (iRange1 (aCons (eOps fLen (aCons (eFld ["Meeting"] "numbers" (eVar 0)) (aNil))) (aNil))) (mgName 1) (mTest (eOp2 oNotIn (eVar 1) (eFld ["Book", "Company", "Echo", "Meeting", "Post", "Pulse", "TimedPulse"] "liars" (eVar 0)))) (eVar 1) [1]))
def pt_Meeting_honest_1 : List Plc := [.a 0]
def gD_Meeting_honest_1 : List Dv → List Dv → List Dv := fun ds zs => plc pt_Meeting_honest_1 ds [] [] zs
@[simp] theorem gE_Meeting_honest_1 (u0 : Dv) : gD_Meeting_honest_1 [u0] [] = [u0] := rfl
noncomputable def M_Meeting_numbers_now : MF := fnM 1 2 (sRet (eLc (iVal (eObj ["Meeting"] "honest" 0 0 gD_Meeting_honest_1 M_Meeting_honest (eVar 0) aNil (aNil))) (mgName 1) (mYes) (eOp2 oIx (eFld ["Meeting"] "numbers" (eVar 0)) (eVar 1)) [1]))
def pt_Meeting_numbers_now_1 : List Plc := [.a 0]
def gD_Meeting_numbers_now_1 : List Dv → List Dv → List Dv := fun ds zs => plc pt_Meeting_numbers_now_1 ds [] [] zs
@[simp] theorem gE_Meeting_numbers_now_1 (u0 : Dv) : gD_Meeting_numbers_now_1 [u0] [] = [u0] := rfl
noncomputable def M_Meeting_apart : MF := fnM 1 1 (sRet (eOp2 oSub (eOps fMax (aCons (eObj ["Meeting"] "numbers_now" 0 0 gD_Meeting_numbers_now_1 M_Meeting_numbers_now (eVar 0) aNil (aNil)) (aNil))) (eOps fMin (aCons (eObj ["Meeting"] "numbers_now" 0 0 gD_Meeting_numbers_now_1 M_Meeting_numbers_now (eVar 0) aNil (aNil)) (aNil)))))
def pt_Meeting_apart_1 : List Plc := [.a 0]
def gD_Meeting_apart_1 : List Dv → List Dv → List Dv := fun ds zs => plc pt_Meeting_apart_1 ds [] [] zs
@[simp] theorem gE_Meeting_apart_1 (u0 : Dv) : gD_Meeting_apart_1 [u0] [] = [u0] := rfl
noncomputable def M_look_lies : MF := fnM 3 5 (sSeq (sIf (mNot (mTest (eOp1 (oIsT "dict") (eVar 0)))) (sRaise "BadLies") (sNil)) (sForK 0 (mgName 3) (sSeq (sSet 4 (eAnd (eOp1 (oIsT "tuple") (eVar 3)) (eAnd (eOp2 oEq (eOps fLen (aCons (eVar 3) (aNil))) (eC (.int 2))) (eCall 3 0 gD_is_whole_3 M_is_whole (aCons (eOp2 oIx (eVar 3) (eC (.int 1))) (aCons (eC (.int 0)) (aCons (eOp2 oSub (eVar 2) (eC (.int 1))) (aNil)))) (aNil))))) (sIf (mOr (mNot (mTest (eVar 4))) (mOr (mTest (eOp1 (oIsT "bool") (eOp2 oIx (eVar 3) (eC (.int 0))))) (mOr (mTest (eOp2 oNotIn (eOp2 oIx (eVar 3) (eC (.int 0))) (eVar 1))) (mNot (mTest (eCall 3 0 gD_is_whole_3 M_is_whole (aCons (eOp2 oDx (eVar 0) (eVar 3)) (aCons (eOp1 oNeg (eC (.int 1000000))) (aCons (eC (.int 1000000)) (aNil)))) (aNil))))))) (sRaise "BadLies") (sNil)))))
def pt_look_lies_3 : List Plc := [.a 0, .a 1, .a 2]
def gD_look_lies_3 : List Dv → List Dv → List Dv := fun ds zs => plc pt_look_lies_3 ds [] [] zs
@[simp] theorem gE_look_lies_3 (u0 : Dv) (u1 : Dv) (u2 : Dv) : gD_look_lies_3 [u0, u1, u2] [] = [u0, u1, u2] := rfl
noncomputable def M_Meeting_heard : MF := fnM 3 4 (sRet (eLc (iRange1 (aCons (eOps fLen (aCons (eFld ["Meeting"] "numbers" (eVar 0)) (aNil))) (aNil))) (mgName 3) (mYes) (eGet2 (eVar 2) (eOps oTup (aCons (eVar 3) (aCons (eVar 1) (aNil)))) (eOp2 oIx (eFld ["Meeting"] "numbers" (eVar 0)) (eVar 3))) [3]))
def pt_Meeting_heard_3 : List Plc := [.a 0, .a 1, .a 2]
def gD_Meeting_heard_3 : List Dv → List Dv → List Dv := fun ds zs => plc pt_Meeting_heard_3 ds [] [] zs
@[simp] theorem gE_Meeting_heard_3 (u0 : Dv) (u1 : Dv) (u2 : Dv) : gD_Meeting_heard_3 [u0, u1, u2] [] = [u0, u1, u2] := rfl
noncomputable def M_Meeting_meet : MF := fnM 2 4 (sSeq (sExpr (eCall 3 0 gD_look_lies_3 M_look_lies (aCons (eVar 1) (aCons (eFld ["Book", "Company", "Echo", "Meeting", "Post", "Pulse", "TimedPulse"] "liars" (eVar 0)) (aCons (eOps fLen (aCons (eFld ["Meeting"] "numbers" (eVar 0)) (aNil))) (aNil)))) (aNil))) (sSeq (sSet 2 (eDc mkV (iVal (eObj ["Meeting"] "honest" 0 0 gD_Meeting_honest_1 M_Meeting_honest (eVar 0) aNil (aNil))) (mgName 3) (mYes) (eVar 3) (eCall 2 0 gD_middle_of_2 M_middle_of (aCons (eObj ["Meeting"] "heard" 2 0 gD_Meeting_heard_3 M_Meeting_heard (eVar 0) (aCons (eVar 3) (aCons (eVar 1) (aNil))) (aNil)) (aCons (eFld ["Company", "Echo", "Meeting", "Post", "Pulse", "TimedPulse", "Track"] "few" (eVar 0)) (aNil))) (aNil)) [3])) (sSeq (sForK 2 (mgName 3) (sSetIx (eOp2 oDx (eVar 2) (eVar 3)) (eFld ["Meeting"] "numbers" (eVar 0)) (eVar 3) oSetL)) (sFldSet ["Meeting"] "count" (eOp2 oAdd (eFld ["Meeting"] "count" (eVar 0)) (eC (.int 1))) (eVar 0)))))
def pt_Meeting_meet_2 : List Plc := [.a 0, .a 1]
def gD_Meeting_meet_2 : List Dv → List Dv → List Dv := fun ds zs => plc pt_Meeting_meet_2 ds [] [] zs
@[simp] theorem gE_Meeting_meet_2 (u0 : Dv) (u1 : Dv) : gD_Meeting_meet_2 [u0, u1] [] = [u0, u1] := rfl
noncomputable def M__law_lies : MF := fnM 4 8 (sSeq (sSet 4 (eDctT)) (sSeq (sFor (iVal (eVar 2)) (mgName 5) (sFor (iRange1 (aCons (eVar 1) (aNil))) (mgName 6) (sIf (mTest (eOp2 oGt (eCall 2 0 gD__law_draw_2 M__law_draw (aCons (eVar 0) (aCons (eC (.int 5)) (aNil))) (aNil)) (eC (.int 0)))) (sSeq (sSet 7 (eOp2 oSub (eOp2 oAdd (eCall 2 0 gD__law_pick_2 M__law_pick (aCons (eVar 0) (aCons (eVar 3) (aNil))) (aNil)) (eCall 2 0 gD__law_draw_2 M__law_draw (aCons (eVar 0) (aCons (eC (.int 7)) (aNil))) (aNil))) (eC (.int 3)))) (sSetIx (eOps fMax (aCons (eOp2 oSub (eC (.int 0)) (eC (.int 1000000))) (aCons (eOps fMin (aCons (eC (.int 1000000)) (aCons (eCall 2 0 gD__law_pick_2 M__law_pick (aCons (eVar 0) (aCons (eOps oLst (aCons (eVar 7) (aCons (eVar 7) (aCons (eCall 1 0 gD__law_number_1 M__law_number (aCons (eVar 0) (aNil)) (aNil)) (aNil))))) (aNil))) (aNil)) (aNil)))) (aNil)))) (eVar 4) (eOps oTup (aCons (eVar 5) (aCons (eVar 6) (aNil)))) oSetD)) (sNil)))) (sRetF (eVar 4))))
def pt__law_lies_4 : List Plc := [.a 0, .a 1, .a 2, .a 3]
def gD__law_lies_4 : List Dv → List Dv → List Dv := fun ds zs => plc pt__law_lies_4 ds [] [] zs
@[simp] theorem gE__law_lies_4 (u0 : Dv) (u1 : Dv) (u2 : Dv) (u3 : Dv) : gD__law_lies_4 [u0, u1, u2, u3] [] = [u0, u1, u2, u3] := rfl
noncomputable def M__law_half : MF := fnM 1 1 (sRet (eOp2 oSub (eC (.int 0)) (eOp2 oDiv (eOp2 oSub (eC (.int 0)) (eVar 0)) (eC (.int 2)))))
def pt__law_half_1 : List Plc := [.a 0]
def gD__law_half_1 : List Dv → List Dv → List Dv := fun ds zs => plc pt__law_half_1 ds [] [] zs
@[simp] theorem gE__law_half_1 (u0 : Dv) : gD__law_half_1 [u0] [] = [u0] := rfl
noncomputable def M_Meeting_rounds : MF := fnM 1 1 (sRet (eFld ["Meeting"] "count" (eVar 0)))
def pt_Meeting_rounds_1 : List Plc := [.a 0]
def gD_Meeting_rounds_1 : List Dv → List Dv → List Dv := fun ds zs => plc pt_Meeting_rounds_1 ds [] [] zs
@[simp] theorem gE_Meeting_rounds_1 (u0 : Dv) : gD_Meeting_rounds_1 [u0] [] = [u0] := rfl

local macro_rules | `(tactic| wtm_at "mi") => `(tactic| first
  | (with_reducible apply wS_seq) | (with_reducible apply wS_set) | (with_reducible apply wS_if) | (with_reducible apply wS_ret) | (with_reducible apply wS_retF) | (with_reducible apply wS_expr) | (with_reducible apply wS_setix) | (with_reducible apply wS_nil) | (with_reducible apply wS_raise) | (with_reducible apply wS_asg) | (with_reducible apply wS_par)
  | ((with_reducible refine' wE_var ?e ?_); (case e => exact rfl)) | (with_reducible apply wE_c) | (with_reducible apply wE_op2) | (with_reducible apply wE_op1) | (with_reducible apply wE_ops) | (with_reducible apply wE_call) | (with_reducible apply wA_cons) | (with_reducible apply wA_nil)
  | (with_reducible apply wE_and) | (with_reducible apply wE_or) | (with_reducible apply wE_not) | (with_reducible apply wE_if) | (with_reducible apply wT_test) | (with_reducible apply wE_chain) | (with_reducible apply wE_sl) | (with_reducible apply wO_none) | (with_reducible apply wO_some)
  | (with_reducible apply wT_and) | (with_reducible apply wT_or) | (with_reducible apply wT_not) | (with_reducible apply wT_yes) | (with_reducible apply wE_mth) | (with_reducible apply wS_for) | (with_reducible apply wI_val) | (with_reducible apply wI_range1) | (with_reducible apply wI_range2) | (with_reducible apply wI_zip) | (with_reducible apply wE_sc) | (with_reducible apply wE_lc)
  | (with_reducible apply wV_add) | (with_reducible apply wV_sub) | (with_reducible apply wV_neg) | (with_reducible apply wV_lt) | (with_reducible apply wV_le) | (with_reducible apply wV_gt) | (with_reducible apply wV_ge) | (with_reducible apply wV_eq) | (with_reducible apply wV_ne)
  | ((with_reducible refine' wV_mul ?c ?_); (case c => omega)) | ((with_reducible refine' wV_mod ?c ?_); (case c => omega)) | ((with_reducible refine' wV_div ?c ?_); (case c => omega)) | ((with_reducible refine' wV_pow ?c ?_); (case c => omega))
  | (with_reducible apply wE_fld) | (with_reducible apply wS_fld) | (with_reducible apply wE_make) | (with_reducible apply wE_obj) | (with_reducible apply wS_try) | (with_reducible apply wE_mthR) | (with_reducible apply wE_dct0) | ((with_reducible refine' wE_isE ?c ?_); (case c => decide)) | (with_reducible apply wV_isNon) | (with_reducible apply wV_isNotNon)
  | (with_reducible refine ⟨_, rfl, ?_⟩) | (dsimp only [List.set_cons_zero, List.set_cons_succ]))
local macro_rules | `(tactic| wtm_at "m0") => `(tactic| first
  | (with_reducible apply wS_seq) | (with_reducible apply wS_set) | (with_reducible apply wS_ret) | (with_reducible apply wS_retF) | (with_reducible apply wS_expr) | (with_reducible apply wS_setix) | (with_reducible apply wS_nil) | (with_reducible apply wS_raise) | (with_reducible apply wS_asg) | (with_reducible apply wS_par)
  | ((with_reducible refine' wE_var ?e ?_); (case e => exact rfl)) | (with_reducible apply wE_c) | (with_reducible apply wE_op2) | (with_reducible apply wE_op1) | (with_reducible apply wE_ops) | (with_reducible apply wE_call) | (with_reducible apply wA_cons) | (with_reducible apply wA_nil)
  | (with_reducible apply wE_and) | (with_reducible apply wE_or) | (with_reducible apply wE_not) | (with_reducible apply wE_if) | (with_reducible apply wT_test) | (with_reducible apply wE_chain) | (with_reducible apply wE_sl) | (with_reducible apply wO_none) | (with_reducible apply wO_some)
  | (with_reducible apply wT_and) | (with_reducible apply wT_or) | (with_reducible apply wT_not) | (with_reducible apply wT_yes) | (with_reducible apply wE_mth) | (with_reducible apply wS_for) | (with_reducible apply wI_val) | (with_reducible apply wI_range1) | (with_reducible apply wI_range2) | (with_reducible apply wI_zip) | (with_reducible apply wE_sc) | (with_reducible apply wE_lc)
  | (with_reducible apply wV_add) | (with_reducible apply wV_sub) | (with_reducible apply wV_neg) | (with_reducible apply wV_lt) | (with_reducible apply wV_le) | (with_reducible apply wV_gt) | (with_reducible apply wV_ge) | (with_reducible apply wV_eq) | (with_reducible apply wV_ne)
  | ((with_reducible refine' wV_mul ?c ?_); (case c => omega)) | ((with_reducible refine' wV_mod ?c ?_); (case c => omega)) | ((with_reducible refine' wV_div ?c ?_); (case c => omega)) | ((with_reducible refine' wV_pow ?c ?_); (case c => omega))
  | (with_reducible apply wE_fld) | (with_reducible apply wS_fld) | (with_reducible apply wE_make) | (with_reducible apply wE_obj) | (with_reducible apply wS_try) | (with_reducible apply wE_mthR) | (with_reducible apply wE_dct0) | ((with_reducible refine' wE_isE ?c ?_); (case c => decide)) | (with_reducible apply wV_isNon) | (with_reducible apply wV_isNotNon)
  | (with_reducible refine ⟨_, rfl, ?_⟩) | (dsimp only [List.set_cons_zero, List.set_cons_succ]))
local macro_rules | `(tactic| wtm_at "mi") => `(tactic| first
  | (with_reducible apply wE_get2) | (with_reducible apply wE_get1) | (with_reducible apply wE_setdN) | (with_reducible apply wE_dctT) | (with_reducible apply wE_dctK) | (with_reducible apply wE_dct0T) | (with_reducible apply wE_dc) | (with_reducible apply wE_lcC) | (with_reducible apply wS_raise1)
  | ((with_reducible refine' wE_frzV ?e ?_); (case e => exact rfl)) | (with_reducible apply wI_enum) | (with_reducible apply wS_fldAug) | (with_reducible apply wS_trys) | ((with_reducible refine' wS_forK ?e ?_); (case e => exact rfl)))
local macro_rules | `(tactic| wtm_at "m0") => `(tactic| first
  | (with_reducible apply wE_get2) | (with_reducible apply wE_get1) | (with_reducible apply wE_setdN) | (with_reducible apply wE_dctT) | (with_reducible apply wE_dctK) | (with_reducible apply wE_dct0T) | (with_reducible apply wE_dc) | (with_reducible apply wE_lcC) | (with_reducible apply wS_raise1)
  | ((with_reducible refine' wE_frzV ?e ?_); (case e => exact rfl)) | (with_reducible apply wI_enum) | (with_reducible apply wS_fldAug) | (with_reducible apply wS_trys) | ((with_reducible refine' wS_forK ?e ?_); (case e => exact rfl)))
abbrev mtC (j : Nat) (f : Int) (foes : List Int) (c : Int) : Cell := .ins "Meeting" [("numbers", .obj j), ("few", .int f), ("liars", .lst (foes.map .int)), ("count", .int c)]
structure MeAt (h : MH) (i j : Nat) (ns : List Int) (f : Int) (foes : List Int) (c : Int) : Prop where
  o : h[i]? = some (mtC j f foes c)
  l : h[j]? = some (.lst (ns.map .int))
  ne : i ≠ j
def nowN (ns foes : List Int) : List Int := (honS foes ns.length).map fun k => ns.getD k 0
def allI : List Dv → Bool
  | [] => true
  | x :: xs => (match x with
    | .int _ => true
    | _ => false) && allI xs
theorem look_liars_gen {h : MH} {d : Dv} {n f : Nat} {foes : List Int} (hd : d = .lst (foes.map .int) ∨ d = .tup (foes.map .int)) (w : Foes n f foes) (hf : f ≤ 60) : M_look_liars [d, .int n, .int f] h = .ok .non h := by
  have e0 : ∃ a, tyN h d = some a ∧ (subTy a "list" || subTy a "tuple") = true := by
    rcases hd with rfl | rfl
    · exact ⟨"list", rfl, rfl⟩
    · exact ⟨"tuple", rfl, rfl⟩
  have e1 : rdA h d = some (foes.map .int) := by rcases hd with rfl | rfl <;> rfl
  have e2 : asIt d h = .ok (foes.map .int, .free) h := by rcases hd with rfl | rfl <;> rfl
  obtain ⟨a, e0, e3⟩ := e0
  have l := w.l
  apply eq_of_wR
  unfold M_look_liars
  refine wF rfl ?_
  simp only [List.map_cons, List.map_nil, List.replicate_succ, List.replicate_zero, List.cons_append, List.nil_append, Nat.reduceSub]
  repeat' wtm_at "m0"
  refine wV_isT2 e0 ?_
  rw [e3]
  repeat' wtm_at "m0"
  refine ⟨fun _ => ?_, fun z => (by cases z)⟩
  repeat' wtm_at "m0"
  refine wR_of (fLen_of e1) ?_
  repeat' wtm_at "m0"
  rw [List.length_map]
  repeat' wtm_at "m0"
  have d1 : decide ((foes.length : Int) ≤ f) = true := decide_eq_true (by omega)
  rw [d1]
  apply wS_if
  repeat' wtm_at "m0"
  refine ⟨fun _ => ?_, fun z => (by cases z)⟩
  repeat' wtm_at "m0"
  refine wR_of e2 ?_
  refine wR_of (lcL_list Dv.int (fun _ => true) (fun _ => Dv.bl true) rfl foes [] (by simp; omega) fun x hx => ⟨_, rfl, ?_, fun _ => ?_⟩) ?_
  · repeat' wtm_at "m0"
    exact ⟨rfl, rfl⟩
  · repeat' wtm_at "m0"
    have hb := w.b x hx
    refine ⟨⟨rfl, rfl⟩, wR_of (is_whole_ok hb.1 (by omega)) ?_⟩
    repeat' wtm_at "m0"
    exact ⟨rfl, rfl⟩
  repeat' wtm_at "m0"
  rw [List.nil_append, List.filter_eq_self.mpr (fun _ _ => rfl)]
  refine wR_of (fAll_of (xs := foes.map fun _ => true) (by show some _ = some _; rw [List.map_map]; rfl)) ?_
  repeat' wtm_at "m0"
  have : (foes.map fun _ => true).all id = true := by simp
  rw [this]
  refine ⟨fun _ => ?_, fun z => (by cases z)⟩
  repeat' wtm_at "m0"
  refine wR_of (fSortSet_ofA e1 (by omega)) ?_
  repeat' wtm_at "m0"
  refine wR_of (fList_of e1) ?_
  repeat' wtm_at "m0"
  have e : sortU foes = foes := rising_one (sortU_lt foes) w.r fun k => sortU_mem
  rw [e]
  refine wR_of (oNe_ints (xs := foes) (ys := foes) rfl rfl) ?_
  repeat' wtm_at "m0"
  refine ⟨fun z => (by simp at z), fun _ => ?_⟩
  repeat' wtm_at "m0"
  exact ⟨by first | rfl | trivial, rfl⟩
theorem look_liars_ok {h : MH} {n f : Nat} {foes : List Int} (w : Foes n f foes) (hf : f ≤ 60) : M_look_liars [.lst (foes.map .int), .int n, .int f] h = .ok .non h := look_liars_gen (.inl rfl) w hf
theorem meeting_made {h : MH} {i : Nat} {ns foes : List Int} {f : Nat} {d : Dv} (hd : d = .lst (foes.map .int) ∨ d = .tup (foes.map .int)) (e : h[i]? = some (.ins "Meeting" [])) (w : OkW ns) (hn : ns.length ≤ 16) (hf : f ≤ 5) (h2 : 2 * f < ns.length) (wf : Foes ns.length f foes) :
    M_Meeting___init__ [.obj i, .lst (ns.map .int), .int f, d] h = .ok .non (List.set (h ++ [Cell.lst (ns.map .int)]) i (mtC h.length f foes 0)) := by
  suffices w : wR (M_Meeting___init__ [.obj i, .lst (ns.map .int), .int f, d] h) (fun d h' => d = .non ∧ h' = List.set (h ++ [Cell.lst (ns.map .int)]) i (mtC h.length f foes 0)) nE by
    obtain ⟨a, h', e1, rfl, rfl⟩ := ex_of_wR w
    exact e1
  have e' := app_at (g := [Cell.lst (ns.map .int)]) e
  unfold M_Meeting___init__
  refine wF rfl ?_
  simp only [List.map_cons, List.map_nil, List.replicate_succ, List.replicate_zero, List.cons_append, List.nil_append, Nat.reduceSub]
  repeat' wtm_at "m0"
  refine ⟨⟨rfl, rfl⟩, wR_of (look_worths_ok rfl w.l1 w.l2 w.b) ?_⟩
  repeat' wtm_at "m0"
  refine ⟨⟨rfl, rfl⟩, wR_of (look_number_ok (by omega) (by omega)) ?_⟩
  repeat' wtm_at "m0"
  apply if_no
  · apply or_no
    · repeat' wtm_at "m0"
      refine wR_of (fLen_of (xs := ns.map .int) rfl) ?_
      repeat' wtm_at "m0"
      rw [List.length_map]
      exact ⟨decide_eq_false (by omega), rfl⟩
    · repeat' wtm_at "m0"
      refine wR_of (fLen_of (xs := ns.map .int) rfl) ?_
      repeat' wtm_at "m0"
      rw [List.length_map]
      repeat' wtm_at "m0"
      exact ⟨decide_eq_false (by omega), rfl⟩
  repeat' wtm_at "m0"
  refine wR_of (fLen_of (xs := ns.map .int) rfl) ?_
  repeat' wtm_at "m0"
  rw [List.length_map]
  refine ⟨⟨rfl, rfl⟩, wR_of (look_liars_gen hd wf (by omega)) ?_⟩
  repeat' wtm_at "m0"
  refine wR_of (fListM_of (xs := ns.map .int) rfl) ?_
  repeat' wtm_at "m0"
  refine ⟨_, _, _, insOf_at e', by decide, by show 0 < 1000; decide, ?_⟩
  repeat' wtm_at "m0"
  refine ⟨_, _, _, insOf_at (set_at e'), by decide, (by show 1 < 1000; decide), ?_⟩
  repeat' wtm_at "m0"
  refine wR_of (fList_of (xs := foes.map .int) (by rcases hd with rfl | rfl <;> rfl)) ?_
  repeat' wtm_at "m0"
  rw [List.set_set]
  refine ⟨_, _, _, insOf_at (set_at e'), by decide, (by show 2 < 1000; decide), ?_⟩
  repeat' wtm_at "m0"
  rw [List.set_set]
  refine ⟨_, _, _, insOf_at (set_at e'), by decide, (by show 3 < 1000; decide), ?_⟩
  rw [List.set_set]
  exact ⟨by first | rfl | trivial, rfl⟩
section
variable {h : MH} {i j : Nat} {ns foes : List Int} {f : Nat} {c : Int}
theorem honest_ok (m : MeAt h i j ns f foes c) (hl : ns.length ≤ 1000) : M_Meeting_honest [.obj i] h = .ok (.lst ((honS foes ns.length).map fun k : Nat => .int k)) h := by
  apply eq_of_wR
  unfold M_Meeting_honest
  refine wF rfl ?_
  simp only [List.map_cons, List.map_nil, List.replicate_succ, List.replicate_zero, List.cons_append, List.nil_append, Nat.reduceSub]
  repeat' wtm_at "m0"
  refine ⟨_, _, _, _, insOf_at (m.o), by decide, rfl, ?_⟩
  repeat' wtm_at "m0"
  refine wR_of (fLen_of (rdA_of_rdL (rdL_at m.l))) ?_
  repeat' wtm_at "m0"
  rw [List.length_map]
  refine ⟨decide_eq_true (by omega), ?_⟩
  rw [range_nat]
  refine wR_of (lcL_list (fun k : Nat => .int k) (fun k : Nat => decide ((k : Int) ∉ foes)) (fun k : Nat => .int k) rfl (List.range ns.length) [] (by simp; omega) fun x hx => ⟨_, rfl, ?_, fun _ => ?_⟩) ?_
  · repeat' wtm_at "m0"
    refine ⟨_, _, _, _, insOf_at (m.o), by decide, rfl, ?_⟩
    repeat' wtm_at "m0"
    refine wR_of (oNotIn_ints (xs := foes) rfl) ?_
    repeat' wtm_at "m0"
    exact ⟨by simp, rfl⟩
  · repeat' wtm_at "m0"
    exact ⟨rfl, rfl⟩
  exact ⟨rfl, rfl⟩
theorem numbers_now_ok (m : MeAt h i j ns f foes c) (hl : ns.length ≤ 1000) : M_Meeting_numbers_now [.obj i] h = .ok (.lst ((nowN ns foes).map .int)) h := by
  have hh : (honS foes ns.length).length ≤ ns.length := by
    unfold honS
    exact Nat.le_trans (List.length_filter_le _ _) (by simp)
  apply eq_of_wR
  unfold M_Meeting_numbers_now
  refine wF rfl ?_
  simp only [List.map_cons, List.map_nil, List.replicate_succ, List.replicate_zero, List.cons_append, List.nil_append, Nat.reduceSub]
  repeat' wtm_at "m0"
  refine ⟨_, _, _, insOf_at (m.o), by decide, rfl, ?_⟩
  repeat' wtm_at "m0"
  refine ⟨⟨rfl, rfl⟩, wR_of (honest_ok m hl) ?_⟩
  repeat' wtm_at "m0"
  refine wR_of (a := (_, Gd.free)) rfl ?_
  refine wR_of (lcL_list (fun k : Nat => .int k) (fun _ => true) (fun k : Nat => .int (ns.getD k 0)) rfl (honS foes ns.length) [] (by simp; omega) fun x hx => ⟨_, rfl, ?_, fun _ => ?_⟩) ?_
  · repeat' wtm_at "m0"
    exact ⟨rfl, rfl⟩
  · repeat' wtm_at "m0"
    refine ⟨_, _, _, _, insOf_at (m.o), by decide, rfl, ?_⟩
    repeat' wtm_at "m0"
    have hx := (hon_mem.mp hx).1
    refine wV_ix (rdS_of_rdL (rdL_at m.l)) (by omega) ?_ ⟨rfl, rfl⟩
    rw [List.getElem?_map, show ((x : Int)).toNat = x by omega, List.getD_eq_getElem?_getD, List.getElem?_eq_getElem hx]
    rfl
  refine ⟨?_, rfl⟩
  rw [List.nil_append, List.filter_eq_self.mpr (fun _ _ => rfl)]
  unfold nowN
  rw [List.map_map]
  rfl
theorem apart_ok (m : MeAt h i j ns f foes c) (hl : ns.length ≤ 1000) (hn : nowN ns foes ≠ []) : M_Meeting_apart [.obj i] h = .ok (.int (maxL (nowN ns foes) - minL (nowN ns foes))) h := by
  apply eq_of_wR
  unfold M_Meeting_apart
  refine wF rfl ?_
  simp only [List.map_cons, List.map_nil, List.replicate_succ, List.replicate_zero, List.cons_append, List.nil_append, Nat.reduceSub]
  repeat' wtm_at "m0"
  refine ⟨_, _, _, insOf_at (m.o), by decide, rfl, ?_⟩
  repeat' wtm_at "m0"
  refine ⟨⟨rfl, rfl⟩, wR_of (numbers_now_ok m hl) ?_⟩
  repeat' wtm_at "m0"
  refine wR_of (fMax_of rfl hn) ?_
  repeat' wtm_at "m0"
  refine ⟨_, _, _, insOf_at (m.o), by decide, rfl, ?_⟩
  repeat' wtm_at "m0"
  refine ⟨⟨rfl, rfl⟩, wR_of (numbers_now_ok m hl) ?_⟩
  repeat' wtm_at "m0"
  refine wR_of (fMin_of rfl hn) ?_
  repeat' wtm_at "m0"
  exact ⟨rfl, rfl⟩
theorem rounds_now_ok (m : MeAt h i j ns f foes c) : M_Meeting_rounds [.obj i] h = .ok (.int c) h := by
  apply eq_of_wR
  unfold M_Meeting_rounds
  refine wF rfl ?_
  simp only [List.map_cons, List.map_nil, List.replicate_succ, List.replicate_zero, List.cons_append, List.nil_append, Nat.reduceSub]
  repeat' wtm_at "m0"
  refine ⟨_, _, _, _, insOf_at (m.o), by decide, rfl, ?_⟩
  repeat' wtm_at "m0"
  exact ⟨rfl, rfl⟩
/-- lies of liars, to houses -/
structure LiesOk (n : Nat) (foes : List Int) (kvs : List ((Int × Int) × Dv)) : Prop where
  a : ∀ p ∈ kvs, p.1.1 ∈ foes
  b : ∀ p ∈ kvs, 0 ≤ p.1.2 ∧ p.1.2 < n
  c : ∀ p ∈ kvs, ∃ v : Int, p.2 = .int v ∧ -1000000 ≤ v ∧ v ≤ 1000000
theorem look_lies_ok {n : Nat} {kvs : List ((Int × Int) × Dv)} (w : LiesOk n foes kvs) : M_look_lies [.dct (dmk kPair kvs), .lst (foes.map .int), .int n] h = .ok .non h := by
  apply eq_of_wR
  unfold M_look_lies
  refine wF rfl ?_
  simp only [List.map_cons, List.map_nil, List.replicate_succ, List.replicate_zero, List.cons_append, List.nil_append, Nat.reduceSub]
  apply wS_seq
  apply if_no
  · apply not_no
    repeat' wtm_at "m0"
    exact wR_of (isT_of (a := "dict") rfl) ⟨_, rfl, rfl, rfl⟩
  repeat' wtm_at "m0"
  rw [dkeys_dmk]
  refine forL_inv (fun r τ h' => ∃ (rr : List ((Int × Int) × Dv)) (d3 d4 : Option Dv), r = rr.map (fun p => kPair.kd p.1) ∧ (∀ p ∈ rr, p ∈ kvs) ∧ h' = h ∧ τ = [some (.dct (dmk kPair kvs)), some (.lst (foes.map .int)), some (.int n), d3, d4]) _ ⟨kvs, none, none, rfl, fun _ z => z, rfl, rfl⟩ ?_ ?_
  · rintro d r τ h' ⟨rr, d3, d4, er, hm, rfl, rfl⟩
    cases rr with
    | nil => cases er
    | cons p rr =>
      cases er
      have hp := hm p List.mem_cons_self
      obtain ⟨p1, p2⟩ := w.b p hp
      have p3 := w.a p hp
      obtain ⟨x, hx⟩ := Option.isSome_iff_exists.mp (lkp_mem.mpr (List.mem_map_of_mem (f := (·.1)) hp))
      obtain ⟨v, rfl, v1, v2⟩ := w.c _ (lkp_of_mem hx)
      refine ⟨rfl, _, rfl, ?_⟩
      repeat' wtm_at "m0"
      refine wR_of (isT_of (a := "tuple") rfl) ?_
      repeat' wtm_at "m0"
      refine ⟨fun _ => ?_, fun z => (by cases z)⟩
      repeat' wtm_at "m0"
      refine wR_of (fLen_of (xs := [.int p.1.1, .int p.1.2]) rfl) ?_
      repeat' wtm_at "m0"
      refine ⟨fun _ => ?_, fun z => (by simp at z)⟩
      repeat' wtm_at "m0"
      refine wV_ix (xs := [.int p.1.1, .int p.1.2]) rfl (by decide) rfl ?_
      repeat' wtm_at "m0"
      refine ⟨⟨rfl, rfl⟩, wR_of (is_whole_ok p1 (by omega)) ?_⟩
      repeat' wtm_at "m0"
      apply if_no
      · apply or_no
        · apply not_no
          repeat' wtm_at "m0"
          exact ⟨rfl, rfl⟩
        apply or_no
        · repeat' wtm_at "m0"
          refine wV_ix (xs := [.int p.1.1, .int p.1.2]) rfl (by decide) rfl ?_
          exact wR_of (isT_of (a := "int") rfl) ⟨_, rfl, rfl, rfl⟩
        apply or_no
        · repeat' wtm_at "m0"
          refine wV_ix (xs := [.int p.1.1, .int p.1.2]) rfl (by decide) rfl ?_
          repeat' wtm_at "m0"
          exact wR_of (oNotIn_ints (xs := foes) rfl) ⟨_, rfl, by simp [p3], rfl⟩
        apply not_no
        repeat' wtm_at "m0"
        refine wD_ix kPair (kvs := kvs) (a := p.1) rfl hx ?_
        repeat' wtm_at "m0"
        refine ⟨⟨rfl, rfl⟩, wR_of (is_whole_ok (by omega) (by omega)) ?_⟩
        repeat' wtm_at "m0"
        exact ⟨rfl, rfl⟩
      repeat' wtm_at "m0"
      exact ⟨rr, _, _, rfl, fun q hq => hm q (List.mem_cons_of_mem _ hq), rfl, rfl⟩
  · rintro τ h' ⟨rr, d3, d4, er, hm, rfl, rfl⟩
    exact ⟨rfl, by first | rfl | trivial, rfl⟩
def heardN (ns : List Int) (kvs : List ((Int × Int) × Dv)) (k : Int) : List Int := (List.range ns.length).map fun i : Nat => match lkp kvs ((i : Int), k) with
  | some (.int v) => v
  | _ => ns.getD i 0
theorem heardN_len {kvs : List ((Int × Int) × Dv)} {k : Int} : (heardN ns kvs k).length = ns.length := by unfold heardN; simp
theorem heard_ok {kvs : List ((Int × Int) × Dv)} {k : Int} (m : MeAt h i j ns f foes c) (hl : ns.length ≤ 1000) (w : LiesOk ns.length foes kvs) : M_Meeting_heard [.obj i, .int k, .dct (dmk kPair kvs)] h = .ok (.lst ((heardN ns kvs k).map .int)) h := by
  apply eq_of_wR
  unfold M_Meeting_heard
  refine wF rfl ?_
  simp only [List.map_cons, List.map_nil, List.replicate_succ, List.replicate_zero, List.cons_append, List.nil_append, Nat.reduceSub]
  repeat' wtm_at "m0"
  refine ⟨_, _, _, _, insOf_at (m.o), by decide, rfl, ?_⟩
  repeat' wtm_at "m0"
  refine wR_of (fLen_of (rdA_of_rdL (rdL_at m.l))) ?_
  repeat' wtm_at "m0"
  rw [List.length_map]
  refine ⟨decide_eq_true (by omega), ?_⟩
  rw [range_nat]
  refine wR_of (lcL_list (fun k : Nat => .int k) (fun _ => true) (fun i : Nat => .int (match lkp kvs ((i : Int), k) with
    | some (.int v) => v
    | _ => ns.getD i 0)) rfl (List.range ns.length) [] (by simp; omega) fun x hx => ⟨_, rfl, ?_, fun _ => ?_⟩) ?_
  · repeat' wtm_at "m0"
    exact ⟨rfl, rfl⟩
  · have hx := List.mem_range.mp hx
    repeat' wtm_at "m0"
    refine ⟨⟨_, rfl⟩, ?_⟩
    repeat' wtm_at "m0"
    refine wR_of (a := .tup [.int x, .int k]) (h := h) rfl ?_
    repeat' wtm_at "m0"
    refine ⟨_, _, _, _, insOf_at (m.o), by decide, rfl, ?_⟩
    repeat' wtm_at "m0"
    refine wV_ix (x := .int (ns.getD x 0)) (rdS_of_rdL (rdL_at m.l)) (by omega) ?_ ?_
    · rw [List.getElem?_map, show ((x : Int)).toNat = x by omega, List.getD_eq_getElem?_getD, List.getElem?_eq_getElem hx]
      rfl
    refine wR_of (oGet2_eq kPair (kvs := kvs) (a := ((x : Int), k)) rfl) ⟨?_, rfl⟩
    cases hc : lkp kvs ((x : Int), k) with
    | none => rfl
    | some y =>
      obtain ⟨v, rfl, _, _⟩ := w.c _ (lkp_of_mem hc)
      rfl
  refine ⟨?_, rfl⟩
  rw [List.nil_append, List.filter_eq_self.mpr (fun _ _ => rfl)]
  unfold heardN
  rw [List.map_map]
  rfl
/-- each honest house's number behind a round -/
def newN (ns foes : List Int) (f : Nat) (kvs : List ((Int × Int) × Dv)) : List Int := (honS foes ns.length).foldl (fun ys k => ys.set k (midN (heardN ns kvs k) f)) ns
theorem fold_set_len {α : Type} (g : Nat → α) : ∀ (l : List Nat) (ys : List α), (l.foldl (fun ys k => ys.set k (g k)) ys).length = ys.length
  | [], _ => rfl
  | k :: l, ys => by rw [List.foldl_cons, fold_set_len g l, List.length_set]
theorem fold_set_get {α : Type} (g : Nat → α) {i : Nat} : ∀ (l : List Nat) (ys : List α), i < ys.length → (l.foldl (fun ys k => ys.set k (g k)) ys)[i]? = if i ∈ l then some (g i) else ys[i]?
  | [], _, _ => by simp
  | k :: l, ys, hi => by
    rw [List.foldl_cons, fold_set_get g l _ (by rw [List.length_set]; exact hi)]
    by_cases h1 : i ∈ l
    · rw [if_pos h1, if_pos (List.mem_cons_of_mem _ h1)]
    · rw [if_neg h1]
      by_cases h2 : i = k
      · subst h2
        rw [if_pos List.mem_cons_self, List.getElem?_set_self hi]
      · rw [if_neg (fun z => (List.mem_cons.mp z).elim h2 h1), List.getElem?_set_ne (fun z => h2 z.symm)]
theorem newN_len {kvs : List ((Int × Int) × Dv)} : (newN ns foes f kvs).length = ns.length := fold_set_len _ _ _
theorem newN_hon {kvs : List ((Int × Int) × Dv)} {k : Nat} (hk : k ∈ honS foes ns.length) : (newN ns foes f kvs).getD k 0 = midN (heardN ns kvs k) f := by
  unfold newN
  rw [List.getD_eq_getElem?_getD, fold_set_get _ _ _ (hon_mem.mp hk).1, if_pos hk]
  rfl
theorem meet_ok {kvs : List ((Int × Int) × Dv)} (m : MeAt h i j ns f foes c) (hl : ns.length ≤ 16) (h2 : 2 * f < ns.length) (w : LiesOk ns.length foes kvs) :
    ∃ h', M_Meeting_meet [.obj i, .dct (dmk kPair kvs)] h = .ok .non h' ∧ h' = (h.set j (.lst ((newN ns foes f kvs).map .int))).set i (mtC j f foes (c + 1)) := by
  have hh : (honS foes ns.length).length ≤ ns.length := by
    unfold honS
    exact Nat.le_trans (List.length_filter_le _ _) (by simp)
  suffices w : wR (M_Meeting_meet [.obj i, .dct (dmk kPair kvs)] h) (fun d h' => d = .non ∧ h' = (h.set j (.lst ((newN ns foes f kvs).map .int))).set i (mtC j f foes (c + 1))) nE by
    obtain ⟨a, h', e1, rfl, e2⟩ := ex_of_wR w
    exact ⟨h', e1, e2⟩
  unfold M_Meeting_meet
  refine wF rfl ?_
  simp only [List.map_cons, List.map_nil, List.replicate_succ, List.replicate_zero, List.cons_append, List.nil_append, Nat.reduceSub]
  repeat' wtm_at "m0"
  refine ⟨_, _, _, _, insOf_at (m.o), by decide, rfl, ?_⟩
  repeat' wtm_at "m0"
  refine ⟨_, _, _, _, insOf_at (m.o), by decide, rfl, ?_⟩
  repeat' wtm_at "m0"
  refine wR_of (fLen_of (rdA_of_rdL (rdL_at m.l))) ?_
  repeat' wtm_at "m0"
  rw [List.length_map]
  refine ⟨⟨rfl, rfl⟩, wR_of (look_lies_ok w) ?_⟩
  repeat' wtm_at "m0"
  refine ⟨_, _, _, insOf_at (m.o), by decide, rfl, ?_⟩
  repeat' wtm_at "m0"
  refine ⟨⟨rfl, rfl⟩, wR_of (honest_ok m (by omega)) ?_⟩
  repeat' wtm_at "m0"
  refine wR_of (a := (_, Gd.free)) rfl ?_
  refine wR_of (dcL_list kInt rfl (fun k : Nat => Dv.int k) (fun _ => true) (fun k : Nat => (k : Int)) (fun k : Nat => Dv.int (midN (heardN ns kvs k) f)) rfl (honS foes ns.length) [] (by simp; omega) fun x hx => ⟨_, rfl, ?_, fun _ => ⟨?_, ?_⟩⟩) ?_
  · repeat' wtm_at "m0"
    exact ⟨rfl, rfl⟩
  · repeat' wtm_at "m0"
    exact ⟨rfl, rfl⟩
  · repeat' wtm_at "m0"
    refine ⟨_, _, _, insOf_at (m.o), by decide, rfl, ?_⟩
    repeat' wtm_at "m0"
    refine ⟨⟨rfl, rfl⟩, wR_of (heard_ok m (by omega) w) ?_⟩
    repeat' wtm_at "m0"
    refine ⟨_, _, _, _, insOf_at (m.o), by decide, rfl, ?_⟩
    repeat' wtm_at "m0"
    refine ⟨⟨rfl, rfl⟩, wR_of (middle_of_eq (xs := heardN ns kvs x) rfl (by rw [heardN_len]; exact h2) (by rw [heardN_len]; omega)) ?_⟩
    repeat' wtm_at "m0"
    exact ⟨rfl, rfl⟩
  rw [List.filter_eq_self.mpr (fun _ _ => rfl), fold_new _ _ _ _ (by rw [List.map_nil, List.nil_append]; exact nodup_ints (List.nodup_range.filter _)), List.nil_append]
  rw [show ∀ L, dpl kInt L = dmk kInt L from fun _ => rfl]
  repeat' wtm_at "m0"
  rw [dkeys_dmk, List.map_map]
  have look : ∀ k ∈ honS foes ns.length, lkp ((honS foes ns.length).map fun k : Nat => ((k : Int), Dv.int (midN (heardN ns kvs k) f))) (k : Int) = some (Dv.int (midN (heardN ns kvs k) f)) := by
    generalize honS foes ns.length = l
    intro k hk
    induction l with
    | nil => cases hk
    | cons a l ih =>
      rw [List.map_cons, lkp_cons]
      by_cases e : (a : Int) = (k : Int)
      · rw [if_pos e]
        have e : a = k := Int.ofNat.inj e
        rw [e]
      · rw [if_neg e]
        refine ih ((List.mem_cons.mp hk).resolve_left fun z => e (by rw [z]))
  have keepO : ∀ c', (h.set j c')[i]? = some (mtC j f foes c) := fun c' => by rw [set_ne m.ne.symm]; exact m.o
  refine forL_inv (fun r τ h' => ∃ (l : List Nat) (ys : List Int) (d3 : Option Dv), r = l.map (fun k : Nat => Dv.int k) ∧ (∀ k ∈ l, k ∈ honS foes ns.length) ∧ ys.length = ns.length ∧ l.foldl (fun ys k => ys.set k (midN (heardN ns kvs k) f)) ys = newN ns foes f kvs ∧
    h' = h.set j (.lst (ys.map .int)) ∧ τ = [some (.obj i), some (.dct (dmk kPair kvs)), some (Dv.dct (dmk kInt ((honS foes ns.length).map fun k : Nat => ((k : Int), Dv.int (midN (heardN ns kvs k) f))))), d3]) _ ⟨honS foes ns.length, ns, none, rfl, fun _ z => z, rfl, rfl, ?_, rfl⟩ ?_ ?_
  · exact (List.ext_getElem? fun k => by
      by_cases e : j = k
      · subst e
        rw [set_at m.l, m.l]
      · rw [set_ne e])
  · rintro d r τ h' ⟨l, ys, d3, er, hm, hy, hf, rfl, rfl⟩
    cases l with
    | nil => cases er
    | cons k l =>
      cases er
      have hk := hm k List.mem_cons_self
      refine ⟨rfl, _, rfl, ?_⟩
      repeat' wtm_at "m0"
      refine wD_ix kInt rfl (look k hk) ?_
      repeat' wtm_at "m0"
      refine ⟨_, _, _, _, insOf_at (keepO _), by decide, rfl, ?_⟩
      repeat' wtm_at "m0"
      refine ⟨_, oSetL_at (set_at m.l) (by omega) (by rw [List.length_map]; have := (hon_mem.mp hk).1; omega), l, ys.set k (midN (heardN ns kvs k) f), _, rfl, fun q hq => hm q (List.mem_cons_of_mem _ hq), by rw [List.length_set]; exact hy, hf, ?_, rfl⟩
      rw [List.set_set, List.map_set, show ((k : Int)).toNat = k by omega]
  · rintro τ h' ⟨l, ys, d3, er, hm, hy, hf, rfl, rfl⟩
    have : l = [] := by simpa using er.symm
    subst this
    have hf : ys = newN ns foes f kvs := hf
    subst hf
    refine ⟨rfl, ?_⟩
    repeat' wtm_at "m0"
    refine ⟨_, _, _, _, insOf_at (keepO _), by decide, rfl, ?_⟩
    repeat' wtm_at "m0"
    refine ⟨_, _, _, insOf_at (keepO _), by decide, (by show 4 < 1000; decide), ?_⟩
    exact ⟨by first | rfl | trivial, rfl⟩
theorem MeAt.met {kvs : List ((Int × Int) × Dv)} (m : MeAt h i j ns f foes c) : MeAt ((h.set j (.lst ((newN ns foes f kvs).map .int))).set i (mtC j f foes (c + 1))) i j (newN ns foes f kvs) f foes (c + 1) :=
  ⟨set_at (by rw [set_ne m.ne.symm]; exact m.o), by rw [set_ne m.ne]; exact set_at m.l, m.ne⟩
end
theorem half_ok {h : MH} {x : Int} : M__law_half [.int x] h = .ok (.int (0 - (0 - x) / 2)) h := by
  apply eq_of_wR
  unfold M__law_half
  refine wF rfl ?_
  simp only [List.map_cons, List.map_nil, List.replicate_succ, List.replicate_zero, List.cons_append, List.nil_append, Nat.reduceSub]
  repeat' wtm_at "m0"
  exact ⟨rfl, rfl⟩
theorem pair_wp {t : Tw} {rest : MH} {Q : Dv → MH → Prop} {E : QE} (q : ∀ (f n : Nat) t', f ≤ 2 → 3 * f + 1 ≤ n → n ≤ 3 * f + 4 → Q (.tup [.int f, .int n]) (T t' rest)) : wR (M__law_pair [.obj 1] (T t rest)) Q E := by
  unfold M__law_pair
  refine wF rfl ?_
  simp only [List.map_cons, List.map_nil, List.replicate_succ, List.replicate_zero, List.cons_append, List.nil_append, Nat.reduceSub]
  repeat' wtm_at "m0"
  refine ⟨⟨rfl, rfl⟩, draw_wp (by decide) (by decide) fun a t1 a1 a2 => ?_⟩
  repeat' wtm_at "m0"
  refine ⟨⟨rfl, rfl⟩, draw_wp (by decide) (by decide) fun b t2 b1 b2 => ?_⟩
  repeat' wtm_at "m0"
  obtain ⟨f, rfl⟩ := Int.eq_ofNat_of_zero_le a1
  obtain ⟨n, hn⟩ := Int.eq_ofNat_of_zero_le (show 0 ≤ 3 * (f : Int) + 1 + b by omega)
  rw [hn]
  exact wR_of (a := .tup [.int f, .int n]) rfl (q f n t2 (by omega) (by omega) (by omega))
end L2.Mi.Lw

/-! MpMeet2: lies that are drawn; how near a round brings honest houses. -/
namespace L2.Mi.Lw
open PySem PySem.Spec PyProof.Rows
local macro_rules | `(tactic| wtm_at "mi") => `(tactic| first
  | (with_reducible apply wS_seq) | (with_reducible apply wS_set) | (with_reducible apply wS_if) | (with_reducible apply wS_ret) | (with_reducible apply wS_retF) | (with_reducible apply wS_expr) | (with_reducible apply wS_setix) | (with_reducible apply wS_nil) | (with_reducible apply wS_raise) | (with_reducible apply wS_asg) | (with_reducible apply wS_par)
  | ((with_reducible refine' wE_var ?e ?_); (case e => exact rfl)) | (with_reducible apply wE_c) | (with_reducible apply wE_op2) | (with_reducible apply wE_op1) | (with_reducible apply wE_ops) | (with_reducible apply wE_call) | (with_reducible apply wA_cons) | (with_reducible apply wA_nil)
  | (with_reducible apply wE_and) | (with_reducible apply wE_or) | (with_reducible apply wE_not) | (with_reducible apply wE_if) | (with_reducible apply wT_test) | (with_reducible apply wE_chain) | (with_reducible apply wE_sl) | (with_reducible apply wO_none) | (with_reducible apply wO_some)
  | (with_reducible apply wT_and) | (with_reducible apply wT_or) | (with_reducible apply wT_not) | (with_reducible apply wT_yes) | (with_reducible apply wE_mth) | (with_reducible apply wS_for) | (with_reducible apply wI_val) | (with_reducible apply wI_range1) | (with_reducible apply wI_range2) | (with_reducible apply wI_zip) | (with_reducible apply wE_sc) | (with_reducible apply wE_lc)
  | (with_reducible apply wV_add) | (with_reducible apply wV_sub) | (with_reducible apply wV_neg) | (with_reducible apply wV_lt) | (with_reducible apply wV_le) | (with_reducible apply wV_gt) | (with_reducible apply wV_ge) | (with_reducible apply wV_eq) | (with_reducible apply wV_ne)
  | ((with_reducible refine' wV_mul ?c ?_); (case c => omega)) | ((with_reducible refine' wV_mod ?c ?_); (case c => omega)) | ((with_reducible refine' wV_div ?c ?_); (case c => omega)) | ((with_reducible refine' wV_pow ?c ?_); (case c => omega))
  | (with_reducible apply wE_fld) | (with_reducible apply wS_fld) | (with_reducible apply wE_make) | (with_reducible apply wE_obj) | (with_reducible apply wS_try) | (with_reducible apply wE_mthR) | (with_reducible apply wE_dct0) | ((with_reducible refine' wE_isE ?c ?_); (case c => decide)) | (with_reducible apply wV_isNon) | (with_reducible apply wV_isNotNon)
  | (with_reducible refine ⟨_, rfl, ?_⟩) | (dsimp only [List.set_cons_zero, List.set_cons_succ]))
local macro_rules | `(tactic| wtm_at "m0") => `(tactic| first
  | (with_reducible apply wS_seq) | (with_reducible apply wS_set) | (with_reducible apply wS_ret) | (with_reducible apply wS_retF) | (with_reducible apply wS_expr) | (with_reducible apply wS_setix) | (with_reducible apply wS_nil) | (with_reducible apply wS_raise) | (with_reducible apply wS_asg) | (with_reducible apply wS_par)
  | ((with_reducible refine' wE_var ?e ?_); (case e => exact rfl)) | (with_reducible apply wE_c) | (with_reducible apply wE_op2) | (with_reducible apply wE_op1) | (with_reducible apply wE_ops) | (with_reducible apply wE_call) | (with_reducible apply wA_cons) | (with_reducible apply wA_nil)
  | (with_reducible apply wE_and) | (with_reducible apply wE_or) | (with_reducible apply wE_not) | (with_reducible apply wE_if) | (with_reducible apply wT_test) | (with_reducible apply wE_chain) | (with_reducible apply wE_sl) | (with_reducible apply wO_none) | (with_reducible apply wO_some)
  | (with_reducible apply wT_and) | (with_reducible apply wT_or) | (with_reducible apply wT_not) | (with_reducible apply wT_yes) | (with_reducible apply wE_mth) | (with_reducible apply wS_for) | (with_reducible apply wI_val) | (with_reducible apply wI_range1) | (with_reducible apply wI_range2) | (with_reducible apply wI_zip) | (with_reducible apply wE_sc) | (with_reducible apply wE_lc)
  | (with_reducible apply wV_add) | (with_reducible apply wV_sub) | (with_reducible apply wV_neg) | (with_reducible apply wV_lt) | (with_reducible apply wV_le) | (with_reducible apply wV_gt) | (with_reducible apply wV_ge) | (with_reducible apply wV_eq) | (with_reducible apply wV_ne)
  | ((with_reducible refine' wV_mul ?c ?_); (case c => omega)) | ((with_reducible refine' wV_mod ?c ?_); (case c => omega)) | ((with_reducible refine' wV_div ?c ?_); (case c => omega)) | ((with_reducible refine' wV_pow ?c ?_); (case c => omega))
  | (with_reducible apply wE_fld) | (with_reducible apply wS_fld) | (with_reducible apply wE_make) | (with_reducible apply wE_obj) | (with_reducible apply wS_try) | (with_reducible apply wE_mthR) | (with_reducible apply wE_dct0) | ((with_reducible refine' wE_isE ?c ?_); (case c => decide)) | (with_reducible apply wV_isNon) | (with_reducible apply wV_isNotNon)
  | (with_reducible refine ⟨_, rfl, ?_⟩) | (dsimp only [List.set_cons_zero, List.set_cons_succ]))
local macro_rules | `(tactic| wtm_at "mi") => `(tactic| first
  | (with_reducible apply wE_get2) | (with_reducible apply wE_get1) | (with_reducible apply wE_setdN) | (with_reducible apply wE_dctT) | (with_reducible apply wE_dctK) | (with_reducible apply wE_dct0T) | (with_reducible apply wE_dc) | (with_reducible apply wE_lcC) | (with_reducible apply wS_raise1)
  | ((with_reducible refine' wE_frzV ?e ?_); (case e => exact rfl)) | (with_reducible apply wI_enum) | (with_reducible apply wS_fldAug) | (with_reducible apply wS_trys) | ((with_reducible refine' wS_forK ?e ?_); (case e => exact rfl)))
local macro_rules | `(tactic| wtm_at "m0") => `(tactic| first
  | (with_reducible apply wE_get2) | (with_reducible apply wE_get1) | (with_reducible apply wE_setdN) | (with_reducible apply wE_dctT) | (with_reducible apply wE_dctK) | (with_reducible apply wE_dct0T) | (with_reducible apply wE_dc) | (with_reducible apply wE_lcC) | (with_reducible apply wS_raise1)
  | ((with_reducible refine' wE_frzV ?e ?_); (case e => exact rfl)) | (with_reducible apply wI_enum) | (with_reducible apply wS_fldAug) | (with_reducible apply wS_trys) | ((with_reducible refine' wS_forK ?e ?_); (case e => exact rfl)))
theorem at_last {t : Tw} {rest : MH} {c : Cell} : (T t (rest ++ [c]))[rest.length + 2]? = some c := by
  show (rest ++ [c])[rest.length]? = _
  simp
theorem set_last {t : Tw} {rest : MH} {c c' : Cell} : (T t (rest ++ [c])).set (rest.length + 2) c' = T t (rest ++ [c']) := by
  show _ :: _ :: ((rest ++ [c]).set rest.length c') = _
  rw [List.set_append_right _ _ (Nat.le_refl _), Nat.sub_self]
  rfl
theorem frzD_last {t : Tw} {rest : MH} {xs : List Dv} : frzD (.obj (rest.length + 2)) (T t (rest ++ [.dct xs])) = (.dct xs, T t (rest ++ [.dead])) := by
  unfold frzD
  simp only [at_last, set_last]
theorem LiesOk.put {n : Nat} {foes : List Int} {kvs : List ((Int × Int) × Dv)} (w : LiesOk n foes kvs) {a : Int × Int} {v : Int} (h1 : a.1 ∈ foes) (h2 : 0 ≤ a.2 ∧ a.2 < n) (h3 : -1000000 ≤ v ∧ v ≤ 1000000) : LiesOk n foes (putA kvs a (.int v)) := by
  refine ⟨fun p hp => ?_, fun p hp => ?_, fun p hp => ?_⟩
  all_goals rcases put_mem hp with rfl | hp
  · exact h1
  · exact w.a p hp
  · exact h2
  · exact w.b p hp
  · exact ⟨v, rfl, h3⟩
  · exact w.c p hp
theorem range_first {n k : Nat} {r : List Dv} {d : Dv} (h : d :: r = (rangeD 0 n).drop k) : d = .int (k : Int) ∧ r = (rangeD 0 n).drop (k + 1) ∧ k < n := by
  rw [range_nat] at h
  have hk : k < n := by
    have := congrArg List.length h
    simp at this
    omega
  rw [List.drop_eq_getElem_cons (by simpa using hk)] at h
  injection h with h1 h2
  rw [range_nat]
  refine ⟨?_, h2, hk⟩
  rw [h1]
  simp
theorem lies_wp {t : Tw} {rest : MH} {n : Nat} {foes xs : List Int} {Q : Dv → MH → Prop} {E : QE} (hn : n ≤ 40) (hf : foes.length ≤ 1000) (hx : xs ≠ []) (hxl : xs.length ≤ 1000)
    (q : ∀ kvs t', LiesOk n foes kvs → Q (.dct (dmk kPair kvs)) (T t' (rest ++ [.dead]))) : wR (M__law_lies [.obj 1, .int n, .lst (foes.map .int), .lst (xs.map .int)] (T t rest)) Q E := by
  unfold M__law_lies
  refine wF rfl ?_
  simp only [List.map_cons, List.map_nil, List.replicate_succ, List.replicate_zero, List.cons_append, List.nil_append, Nat.reduceSub]
  repeat' wtm_at "m0"
  refine wR_of (a := (foes.map Dv.int, Gd.free)) rfl ?_
  have hlen : (T t rest).length = rest.length + 2 := rfl
  rw [hlen]
  refine forL_inv (fun r τ h => ∃ (fr : List Int) (kvs : List ((Int × Int) × Dv)) (t : Tw) (d5 d6 d7 : Option Dv), r = fr.map .int ∧ (∀ x ∈ fr, x ∈ foes) ∧ kvs.length + 40 * fr.length ≤ 40 * foes.length ∧ LiesOk n foes kvs ∧
    h = T t (rest ++ [.dct (dmk kPair kvs)]) ∧ τ = [some (.obj 1), some (.int n), some (.lst (foes.map .int)), some (.lst (xs.map .int)), some (.obj (rest.length + 2)), d5, d6, d7]) _ ⟨foes, [], t, none, none, none, rfl, fun _ z => z, by simp, ⟨fun _ z => (nomatch z), fun _ z => (nomatch z), fun _ z => (nomatch z)⟩, rfl, rfl⟩ ?_ ?_
  · rintro d r τ h ⟨fr, kvs, t, d5, d6, d7, er, hm, hk, w, rfl, rfl⟩
    cases fr with
    | nil => cases er
    | cons x fr =>
      cases er
      rw [List.length_cons] at hk
      have hxm := hm x List.mem_cons_self
      refine ⟨rfl, _, rfl, ?_⟩
      repeat' wtm_at "m0"
      refine ⟨decide_eq_true (by omega), ?_⟩
      refine forL_inv (fun r τ h => ∃ (k : Nat) (kvs : List ((Int × Int) × Dv)) (t : Tw) (d6 d7 : Option Dv), r = (rangeD 0 n).drop k ∧ kvs.length + (n - k) + 40 * fr.length ≤ 40 * foes.length ∧ LiesOk n foes kvs ∧
        h = T t (rest ++ [.dct (dmk kPair kvs)]) ∧ τ = [some (.obj 1), some (.int n), some (.lst (foes.map .int)), some (.lst (xs.map .int)), some (.obj (rest.length + 2)), some (.int x), d6, d7]) _ ⟨0, kvs, t, d6, d7, rfl, by omega, w, rfl, rfl⟩ ?_ ?_
      · rintro d r τ h ⟨k, kvs, t, d6, d7, er, hk, w, rfl, rfl⟩
        obtain ⟨rfl, er, hkn⟩ := range_first er
        refine ⟨rfl, _, rfl, ?_⟩
        apply wS_if
        repeat' wtm_at "m0"
        refine ⟨⟨rfl, rfl⟩, draw_wp (by decide) (by decide) fun a t1 a1 a2 => ?_⟩
        repeat' wtm_at "m0"
        refine ⟨fun _ => ?_, fun _ => ?_⟩
        · repeat' wtm_at "m0"
          refine ⟨⟨rfl, rfl⟩, pickL_wp (by simpa using hx) (by rw [List.length_map]; omega) fun y t2 hy => ?_⟩
          obtain ⟨y, _, rfl⟩ := List.mem_map.mp hy
          repeat' wtm_at "m0"
          refine ⟨⟨rfl, rfl⟩, draw_wp (by decide) (by decide) fun b t3 b1 b2 => ?_⟩
          repeat' wtm_at "m0"
          refine ⟨⟨rfl, rfl⟩, number_wp fun c t4 c1 c2 => ?_⟩
          repeat' wtm_at "m0"
          refine wR_of (a := .lst [.int (y + b - 3), .int (y + b - 3), .int c]) rfl ?_
          repeat' wtm_at "m0"
          refine ⟨⟨rfl, rfl⟩, pickL_wp (by simp) (by show 3 < _; decide) fun z t5 hz => ?_⟩
          obtain ⟨z, rfl⟩ : ∃ i : Int, z = .int i := by
            simp only [List.mem_cons, List.not_mem_nil, or_false] at hz
            rcases hz with rfl | rfl | rfl
            · exact ⟨_, rfl⟩
            · exact ⟨_, rfl⟩
            · exact ⟨_, rfl⟩
          repeat' wtm_at "m0"
          refine wR_of min_two ?_
          repeat' wtm_at "m0"
          refine wR_of max_two ?_
          repeat' wtm_at "m0"
          obtain ⟨u, hu, u1, u2⟩ : ∃ u, max (0 - 1000000) (min 1000000 z) = u ∧ -1000000 ≤ u ∧ u ≤ 1000000 := ⟨_, rfl, by omega, by omega⟩
          rw [hu]
          refine wR_of (a := .tup [.int x, .int k]) (h := T t5 (rest ++ [.dct (dmk kPair kvs)])) rfl ?_
          refine ⟨_, oSetD_eq kPair (a := (x, (k : Int))) at_last (by omega), k + 1, putA kvs (x, (k : Int)) (.int u), t5, _, _, er, ?_, w.put hxm ⟨by show (0 : Int) ≤ k; omega, by show (k : Int) < n; omega⟩ ⟨u1, u2⟩, ?_, rfl⟩
          · have := put_len (kvs := kvs) (a := (x, (k : Int))) (v := .int u)
            omega
          · exact set_last
        · repeat' wtm_at "m0"
          exact ⟨k + 1, kvs, t1, _, _, er, by omega, w, rfl, rfl⟩
      · rintro τ h ⟨k, kvs, t, d6, d7, er, hk, w, rfl, rfl⟩
        exact ⟨rfl, fr, kvs, t, _, _, _, rfl, fun y hy => hm y (List.mem_cons_of_mem _ hy), by omega, w, rfl, rfl⟩
  · rintro τ h ⟨fr, kvs, t, d5, d6, d7, er, hm, hk, w, rfl, rfl⟩
    refine ⟨rfl, ?_⟩
    repeat' wtm_at "m0"
    show Q (frzD (.obj (rest.length + 2)) (T t (rest ++ [.dct (dmk kPair kvs)]))).1 (frzD (.obj (rest.length + 2)) (T t (rest ++ [.dct (dmk kPair kvs)]))).2
    rw [frzD_last]
    exact q kvs t w
/-! ### how near -/
theorem midN_get {xs : List Int} {f : Nat} (h : 2 * f < xs.length) : midN xs f = ((sortI xs)[f]'(by rw [sortI_len]; omega) + (sortI xs)[xs.length - 1 - f]'(by rw [sortI_len]; omega)) / 2 := by
  have hs := sortI_len xs
  have hl := leftN_len h
  unfold midN
  have e1 : (leftN xs f).head?.getD 0 = (sortI xs)[f]'(by omega) := by
    rw [List.head?_eq_getElem?, List.getElem?_eq_getElem (by omega)]
    unfold leftN
    simp
  have e2 : (leftN xs f).getLast?.getD 0 = (sortI xs)[xs.length - 1 - f]'(by omega) := by
    rw [List.getLast?_eq_getElem?, List.getElem?_eq_getElem (by omega)]
    unfold leftN
    simp only [List.getElem_take, List.getElem_drop, Option.getD_some]
    have : f + ((List.take (xs.length - 2 * f) (List.drop f (sortI xs))).length - 1) = xs.length - 1 - f := by
      have := hl
      unfold leftN at this
      omega
    simp only [this]
  rw [e1, e2]
theorem split_count {α : Type} (p q p' : α → Bool) : ∀ l : List α, (∀ x ∈ l, q x = true → p x = true → p' x = true) → (l.filter p).length + (l.filter q).length ≤ ((l.filter q).filter p').length + l.length
  | [], _ => by simp
  | x :: l, h => by
    have ih := split_count p q p' l fun y hy => h y (List.mem_cons_of_mem _ hy)
    have hx := h x List.mem_cons_self
    cases hq : q x with
    | false =>
      rw [List.filter_cons_of_neg (p := q) (by rw [hq]; exact Bool.false_ne_true), List.length_cons]
      have : ((x :: l).filter p).length ≤ (l.filter p).length + 1 := by
        rw [List.filter_cons]
        split
        · rw [List.length_cons]; omega
        · omega
      omega
    | true =>
      rw [List.filter_cons_of_pos (p := q) hq, List.length_cons, List.length_cons]
      cases hp : p x with
      | false =>
        rw [List.filter_cons_of_neg (p := p) (by rw [hp]; exact Bool.false_ne_true)]
        have : ((l.filter q).filter p').length ≤ ((x :: l.filter q).filter p').length := by
          rw [List.filter_cons]
          split
          · rw [List.length_cons]; omega
          · omega
        omega
      | true =>
        rw [List.filter_cons_of_pos (p := p) hp, List.filter_cons_of_pos (p := p') (hx hq hp), List.length_cons, List.length_cons]
        omega
section
variable {ns foes : List Int} {f : Nat} {kvs : List ((Int × Int) × Dv)}
theorem heard_count (w : LiesOk ns.length foes kvs) (k : Int) (p : Int → Bool) : ((heardN ns kvs k).filter p).length + (nowN ns foes).length ≤ ((nowN ns foes).filter p).length + ns.length := by
  unfold heardN nowN honS
  rw [List.filter_map, List.filter_map, List.length_map, List.length_map, List.length_map]
  have := split_count (p ∘ fun i : Nat => match lkp kvs ((i : Int), k) with
    | some (.int v) => v
    | _ => ns.getD i 0) (fun k : Nat => decide ((k : Int) ∉ foes)) (p ∘ fun k => ns.getD k 0) (List.range ns.length) fun x _ hq hp => ?_
  · rw [List.length_range] at this
    exact this
  · have hq := of_decide_eq_true hq
    have e : lkp kvs ((x : Int), k) = none := by
      cases hc : lkp kvs ((x : Int), k) with
      | none => rfl
      | some y => exact absurd (w.a _ (lkp_of_mem hc)) hq
    rw [Function.comp_apply, e] at hp
    exact hp
theorem now_len (wf : Foes ns.length f foes) : ns.length ≤ (nowN ns foes).length + f := by
  unfold nowN
  rw [List.length_map]
  have := hon_len foes ns.length
  have := wf.l
  omega
theorem meet_near (wf : Foes ns.length f foes) (w : LiesOk ns.length foes kvs) (h3 : 3 * f < ns.length) : ∃ v, minL (nowN ns foes) ≤ v ∧ v ≤ maxL (nowN ns foes) ∧
    ∀ x ∈ nowN (newN ns foes f kvs) foes, (minL (nowN ns foes) + v) / 2 ≤ x ∧ x ≤ (v + maxL (nowN ns foes)) / 2 := by
  have hl := now_len wf
  have hH : f < (sortI (nowN ns foes)).length := by rw [sortI_len]; omega
  have sl := sortI_len (nowN ns foes)
  have hc := fun k p => heard_count w k p
  have a1 : aboveN (sortI (nowN ns foes))[f] (nowN ns foes) ≤ (nowN ns foes).length - 1 - f := by
    rw [← aboveN_perm (sortI_perm _), ← sl]
    exact above_le (sortI_le _) hH
  have b1 : belowN (sortI (nowN ns foes))[f] (nowN ns foes) ≤ f := by
    rw [← belowN_perm (sortI_perm _)]
    exact below_le (sortI_le _) hH
  have hv : (sortI (nowN ns foes))[f] ∈ nowN ns foes := (sortI_perm _).mem_iff.mp (List.getElem_mem _)
  refine ⟨(sortI (nowN ns foes))[f], minL_le hv, le_maxL hv, fun x hx => ?_⟩
  obtain ⟨k, hk, rfl⟩ := List.mem_map.mp hx
  rw [newN_len] at hk
  rw [newN_hon hk, midN_get (by rw [heardN_len]; omega)]
  have few : Few (minL (nowN ns foes)) (maxL (nowN ns foes)) f (heardN ns kvs k) := by
    have z1 := aboveN_zero (M := maxL (nowN ns foes)) (xs := nowN ns foes) fun x hx => le_maxL hx
    have z2 := belowN_zero (M := minL (nowN ns foes)) (xs := nowN ns foes) fun x hx => minL_le hx
    unfold aboveN at z1
    unfold belowN at z2
    refine ⟨?_, ?_⟩
    · have := hc k fun x => decide (maxL (nowN ns foes) < x)
      unfold aboveN
      omega
    · have := hc k fun x => decide (x < minL (nowN ns foes))
      unfold belowN
      omega
  have hs : (sortI (heardN ns kvs k)).length = ns.length := by rw [sortI_len, heardN_len]
  have f1 := few.at (i := f) (Nat.le_refl _) (by rw [heardN_len]; omega) (by omega)
  have f2 := few.at (i := (heardN ns kvs k).length - 1 - f) (by rw [heardN_len]; omega) (by rw [heardN_len]; omega) (by rw [heardN_len]; omega)
  have g1 : (sortI (heardN ns kvs k))[f]'(by omega) ≤ (sortI (nowN ns foes))[f] := by
    refine sorted_le_of (sortI_le _) _ ?_
    rw [aboveN_perm (sortI_perm _), hs]
    have := hc k fun x => decide ((sortI (nowN ns foes))[f] < x)
    unfold aboveN at a1 ⊢
    omega
  have g2 : (sortI (nowN ns foes))[f] ≤ (sortI (heardN ns kvs k))[(heardN ns kvs k).length - 1 - f]'(by rw [heardN_len]; omega) := by
    refine sorted_ge_of (sortI_le _) _ ?_
    rw [belowN_perm (sortI_perm _), heardN_len]
    have := hc k fun x => decide (x < (sortI (nowN ns foes))[f])
    unfold belowN at b1 ⊢
    omega
  omega
theorem met_len : (nowN (newN ns foes f kvs) foes).length = (nowN ns foes).length := by
  unfold nowN
  rw [List.length_map, List.length_map, newN_len]
end
end L2.Mi.Lw

/-! MpRefuse: a refusal's name. -/
namespace L2.Mi.Lw
open PySem PySem.Spec PyProof.Rows
noncomputable def M__law_refusal : MF := fnM 1 3 (sSeq (sSet 1 (eOps oLst (aCons (eOp1 (oIsE ["BadNumber"]) (eVar 0)) (aCons (eOp1 (oIsE ["BadWorths"]) (eVar 0)) (aCons (eOp1 (oIsE ["BadLies"]) (eVar 0)) (aNil)))))) (sSeq (sSet 1 (eOp2 oAdd (eVar 1) (eOps oLst (aCons (eOp1 (oIsE ["BadHouses"]) (eVar 0)) (aCons (eOp1 (oIsE ["NoHouse"]) (eVar 0)) (aCons (eOp1 (oIsE ["NoLetter"]) (eVar 0)) (aNil))))))) (sSeq (sSet 1 (eOp2 oAdd (eVar 1) (eOps oLst (aCons (eOp1 (oIsE ["NotNow"]) (eVar 0)) (aCons (eOp1 (oIsE ["BadTable"]) (eVar 0)) (aCons (eOp1 (oIsE ["BadSaying"]) (eVar 0)) (aNil))))))) (sSeq (sIf (mOr (mTest (eOp2 oNe (eMthR gCount (eVar 1) (aCons (eC (.bl true)) (aNil))) (eC (.int 1)))) (mOr (mNot (mTest (eOp1 (oIsE ["BadNumber", "BadWorths", "BadLies", "BadHouses", "NoHouse", "NoLetter", "NotNow", "BadTable", "BadSaying", "LiarError"]) (eVar 0)))) (mNot (mTest (eOp1 (oIsE ["BadNumber", "BadWorths", "BadLies", "BadHouses", "NoHouse", "NoLetter", "NotNow", "BadTable", "BadSaying", "LiarError"]) (eVar 0)))))) (sRet (eC (.str "odd"))) (sNil)) (sSeq (sSet 2 (eOps oLst (aCons (eC (.str "number")) (aCons (eC (.str "worths")) (aCons (eC (.str "lies")) (aCons (eC (.str "houses")) (aCons (eC (.str "house")) (aCons (eC (.str "letter")) (aCons (eC (.str "now")) (aCons (eC (.str "table")) (aCons (eC (.str "saying")) (aNil)))))))))))) (sRet (eOp2 oIx (eVar 2) (eMthR gIndex (eVar 1) (aCons (eC (.bl true)) (aNil))))))))))
def pt__law_refusal_1 : List Plc := [.a 0]
def gD__law_refusal_1 : List Dv → List Dv → List Dv := fun ds zs => plc pt__law_refusal_1 ds [] [] zs
@[simp] theorem gE__law_refusal_1 (u0 : Dv) : gD__law_refusal_1 [u0] [] = [u0] := rfl

local macro_rules | `(tactic| wtm_at "mi") => `(tactic| first
  | (with_reducible apply wS_seq) | (with_reducible apply wS_set) | (with_reducible apply wS_if) | (with_reducible apply wS_ret) | (with_reducible apply wS_retF) | (with_reducible apply wS_expr) | (with_reducible apply wS_setix) | (with_reducible apply wS_nil) | (with_reducible apply wS_raise) | (with_reducible apply wS_asg) | (with_reducible apply wS_par)
  | ((with_reducible refine' wE_var ?e ?_); (case e => exact rfl)) | (with_reducible apply wE_c) | (with_reducible apply wE_op2) | (with_reducible apply wE_op1) | (with_reducible apply wE_ops) | (with_reducible apply wE_call) | (with_reducible apply wA_cons) | (with_reducible apply wA_nil)
  | (with_reducible apply wE_and) | (with_reducible apply wE_or) | (with_reducible apply wE_not) | (with_reducible apply wE_if) | (with_reducible apply wT_test) | (with_reducible apply wE_chain) | (with_reducible apply wE_sl) | (with_reducible apply wO_none) | (with_reducible apply wO_some)
  | (with_reducible apply wT_and) | (with_reducible apply wT_or) | (with_reducible apply wT_not) | (with_reducible apply wT_yes) | (with_reducible apply wE_mth) | (with_reducible apply wS_for) | (with_reducible apply wI_val) | (with_reducible apply wI_range1) | (with_reducible apply wI_range2) | (with_reducible apply wE_lc)
  | (with_reducible apply wV_add) | (with_reducible apply wV_sub) | (with_reducible apply wV_neg) | (with_reducible apply wV_lt) | (with_reducible apply wV_le) | (with_reducible apply wV_gt) | (with_reducible apply wV_ge) | (with_reducible apply wV_eq) | (with_reducible apply wV_ne)
  | ((with_reducible refine' wV_mul ?c ?_); (case c => omega)) | ((with_reducible refine' wV_mod ?c ?_); (case c => omega)) | ((with_reducible refine' wV_div ?c ?_); (case c => omega)) | ((with_reducible refine' wV_pow ?c ?_); (case c => omega))
  | (with_reducible apply wS_try) | (with_reducible apply wE_mthR) | (with_reducible apply wE_dct0) | ((with_reducible refine' wE_isE ?c ?_); (case c => decide)) | (with_reducible apply wV_isNon) | (with_reducible apply wV_isNotNon)
  | (with_reducible refine ⟨_, rfl, ?_⟩) | (dsimp only [List.set_cons_zero, List.set_cons_succ]))
theorem refusal_number {h : MH} : M__law_refusal [.exc "BadNumber" []] h = .ok (.str "number") h := by with_unfolding_all rfl
theorem refusal_worths {h : MH} : M__law_refusal [.exc "BadWorths" []] h = .ok (.str "worths") h := by with_unfolding_all rfl
theorem refusal_lies {h : MH} : M__law_refusal [.exc "BadLies" []] h = .ok (.str "lies") h := by with_unfolding_all rfl
theorem refusal_houses {h : MH} : M__law_refusal [.exc "BadHouses" []] h = .ok (.str "houses") h := by with_unfolding_all rfl
theorem refusal_house {h : MH} : M__law_refusal [.exc "NoHouse" []] h = .ok (.str "house") h := by with_unfolding_all rfl
theorem refusal_letter {h : MH} : M__law_refusal [.exc "NoLetter" []] h = .ok (.str "letter") h := by with_unfolding_all rfl
theorem refusal_now {h : MH} : M__law_refusal [.exc "NotNow" []] h = .ok (.str "now") h := by with_unfolding_all rfl
theorem refusal_table {h : MH} : M__law_refusal [.exc "BadTable" []] h = .ok (.str "table") h := by with_unfolding_all rfl
theorem refusal_saying {h : MH} : M__law_refusal [.exc "BadSaying" []] h = .ok (.str "saying") h := by with_unfolding_all rfl
/-- texts that are written: told unlike by looking -/
theorem ne_str {h : MH} {a b : Str} {r : Bool} (e : pyEq h (.str a) (.str b) = some r) : oNe (.str a) (.str b) h = .ok (.bl (!r)) h := oNe_of e
theorem same_number {h : MH} : oNe (.str "number") (.str "number") h = .ok (.bl false) h := by with_unfolding_all rfl
theorem same_worths {h : MH} : oNe (.str "worths") (.str "worths") h = .ok (.bl false) h := by with_unfolding_all rfl
theorem same_lies {h : MH} : oNe (.str "lies") (.str "lies") h = .ok (.bl false) h := by with_unfolding_all rfl
theorem same_houses {h : MH} : oNe (.str "houses") (.str "houses") h = .ok (.bl false) h := by with_unfolding_all rfl
theorem same_house {h : MH} : oNe (.str "house") (.str "house") h = .ok (.bl false) h := by with_unfolding_all rfl
theorem same_letter {h : MH} : oNe (.str "letter") (.str "letter") h = .ok (.bl false) h := by with_unfolding_all rfl
theorem same_now {h : MH} : oNe (.str "now") (.str "now") h = .ok (.bl false) h := by with_unfolding_all rfl
theorem same_table {h : MH} : oNe (.str "table") (.str "table") h = .ok (.bl false) h := by with_unfolding_all rfl
theorem same_saying {h : MH} : oNe (.str "saying") (.str "saying") h = .ok (.bl false) h := by with_unfolding_all rfl
theorem same_told {h : MH} : oNe (.str "told") (.str "told") h = .ok (.bl false) h := by with_unfolding_all rfl
end L2.Mi.Lw

/-! MpWBad: liarclocks.worths refuses. -/
namespace L2.Mi.Lw
open PySem PySem.Spec PyProof.Rows
local macro_rules | `(tactic| wtm_at "mi") => `(tactic| first
  | (with_reducible apply wS_seq) | (with_reducible apply wS_set) | (with_reducible apply wS_if) | (with_reducible apply wS_ret) | (with_reducible apply wS_retF) | (with_reducible apply wS_expr) | (with_reducible apply wS_setix) | (with_reducible apply wS_nil) | (with_reducible apply wS_raise) | (with_reducible apply wS_asg) | (with_reducible apply wS_par)
  | ((with_reducible refine' wE_var ?e ?_); (case e => exact rfl)) | (with_reducible apply wE_c) | (with_reducible apply wE_op2) | (with_reducible apply wE_op1) | (with_reducible apply wE_ops) | (with_reducible apply wE_call) | (with_reducible apply wA_cons) | (with_reducible apply wA_nil)
  | (with_reducible apply wE_and) | (with_reducible apply wE_or) | (with_reducible apply wE_not) | (with_reducible apply wE_if) | (with_reducible apply wT_test) | (with_reducible apply wE_chain) | (with_reducible apply wE_sl) | (with_reducible apply wO_none) | (with_reducible apply wO_some)
  | (with_reducible apply wT_and) | (with_reducible apply wT_or) | (with_reducible apply wT_not) | (with_reducible apply wT_yes) | (with_reducible apply wE_mth) | (with_reducible apply wS_for) | (with_reducible apply wI_val) | (with_reducible apply wI_range1) | (with_reducible apply wI_range2) | (with_reducible apply wE_lc)
  | (with_reducible apply wV_add) | (with_reducible apply wV_sub) | (with_reducible apply wV_neg) | (with_reducible apply wV_lt) | (with_reducible apply wV_le) | (with_reducible apply wV_gt) | (with_reducible apply wV_ge) | (with_reducible apply wV_eq) | (with_reducible apply wV_ne)
  | ((with_reducible refine' wV_mul ?c ?_); (case c => omega)) | ((with_reducible refine' wV_mod ?c ?_); (case c => omega)) | ((with_reducible refine' wV_div ?c ?_); (case c => omega)) | ((with_reducible refine' wV_pow ?c ?_); (case c => omega))
  | (with_reducible apply wS_try) | (with_reducible apply wE_mthR) | (with_reducible apply wE_dct0) | ((with_reducible refine' wE_isE ?c ?_); (case c => decide)) | (with_reducible apply wV_isNon) | (with_reducible apply wV_isNotNon)
  | (with_reducible refine ⟨_, rfl, ?_⟩) | (dsimp only [List.set_cons_zero, List.set_cons_succ]))
/-- no list of numbers -/
structure BadW (h : MH) (d : Dv) : Prop where
  t : tyd h d
  k : ∀ xs, d ≠ .kls xs
  i : ∀ xs, rdL h d = some xs → ∀ x ∈ xs, tyd h x
  g : gdW h 1 d = false
theorem look_bad {h : MH} {d : Dv} (b : BadW h d) : M_look_worths [d, .int 1] h = .err "BadWorths" [] h := by
  rw [look_worths_eq b.t b.k b.i, if_neg (by rw [b.g]; exact Bool.false_ne_true)]
theorem look_few_bad {h : MH} {b : Dv} (ht : tyd h b) (hw : isWh 0 5 b = false) : M_look_number [b, .int 0, .int 5] h = .err "BadNumber" [] h := by
  rw [look_number_eq ht, if_neg (by rw [hw]; exact Bool.false_ne_true)]
theorem trimmed_bad1 {h : MH} {d b : Dv} (ht : tyd h b) (hw : isWh 0 5 b = false) : M_trimmed [d, b] h = .err "BadNumber" [] h := by
  apply err_of_wR
  unfold M_trimmed
  refine wF rfl ?_
  simp only [List.map_cons, List.map_nil, List.replicate_succ, List.replicate_zero, List.cons_append, List.nil_append, Nat.reduceSub]
  repeat' wtm_at "mi"
  exact ⟨⟨rfl, rfl⟩, wR_ofE (look_few_bad ht hw) ⟨rfl, rfl, rfl⟩⟩
theorem trimmed_bad2 {h : MH} {d : Dv} {f : Nat} (hf : f ≤ 5) (b : BadW h d) : M_trimmed [d, .int f] h = .err "BadWorths" [] h := by
  apply err_of_wR
  unfold M_trimmed
  refine wF rfl ?_
  simp only [List.map_cons, List.map_nil, List.replicate_succ, List.replicate_zero, List.cons_append, List.nil_append, Nat.reduceSub]
  repeat' wtm_at "mi"
  refine ⟨⟨rfl, rfl⟩, wR_of (look_few_ok hf) ?_⟩
  repeat' wtm_at "mi"
  exact ⟨⟨rfl, rfl⟩, wR_ofE (look_bad b) ⟨rfl, rfl, rfl⟩⟩
theorem trimmed_bad3 {h : MH} {d : Dv} {xs : List Int} {f : Nat} (e : rdL h d = some (xs.map .int)) (w : OkW xs) (hf : f ≤ 5) (h1 : xs.length ≤ 2 * f) : M_trimmed [d, .int f] h = .err "BadWorths" [] h := by
  apply err_of_wR
  unfold M_trimmed
  refine wF rfl ?_
  simp only [List.map_cons, List.map_nil, List.replicate_succ, List.replicate_zero, List.cons_append, List.nil_append, Nat.reduceSub]
  repeat' wtm_at "mi"
  refine ⟨⟨rfl, rfl⟩, wR_of (look_few_ok hf) ?_⟩
  repeat' wtm_at "mi"
  refine ⟨⟨rfl, rfl⟩, wR_of (look_worths_ok e w.l1 w.l2 w.b) ?_⟩
  repeat' wtm_at "mi"
  refine wR_of (fLen_of (rdA_of_rdL e)) ?_
  rw [List.length_map]
  repeat' wtm_at "mi"
  refine ⟨fun _ => ?_, fun z => absurd (of_decide_eq_false z) (by omega)⟩
  repeat' wtm_at "mi"
  simp
theorem middle_err {h : MH} {d b : Dv} {c : Str} (e : M_trimmed [d, b] h = .err c [] h) : M_middle [d, b] h = .err c [] h := by
  apply err_of_wR
  unfold M_middle
  refine wF rfl ?_
  simp only [List.map_cons, List.map_nil, List.replicate_succ, List.replicate_zero, List.cons_append, List.nil_append, Nat.reduceSub]
  repeat' wtm_at "mi"
  exact ⟨⟨rfl, rfl⟩, wR_ofE e ⟨rfl, rfl, rfl⟩⟩
theorem mean_err {h : MH} {d b : Dv} {c : Str} (e : M_trimmed [d, b] h = .err c [] h) : M_mean [d, b] h = .err c [] h := by
  apply err_of_wR
  unfold M_mean
  refine wF rfl ?_
  simp only [List.map_cons, List.map_nil, List.replicate_succ, List.replicate_zero, List.cons_append, List.nil_append, Nat.reduceSub]
  repeat' wtm_at "mi"
  exact ⟨⟨rfl, rfl⟩, wR_ofE e ⟨rfl, rfl, rfl⟩⟩
theorem median_bad {h : MH} {d : Dv} (b : BadW h d) : M_median [d] h = .err "BadWorths" [] h := by
  apply err_of_wR
  unfold M_median
  refine wF rfl ?_
  simp only [List.map_cons, List.map_nil, List.replicate_succ, List.replicate_zero, List.cons_append, List.nil_append, Nat.reduceSub]
  repeat' wtm_at "mi"
  exact ⟨⟨rfl, rfl⟩, wR_ofE (look_bad b) ⟨rfl, rfl, rfl⟩⟩
theorem spread_bad {h : MH} {d : Dv} (b : BadW h d) : M_spread [d] h = .err "BadWorths" [] h := by
  apply err_of_wR
  unfold M_spread
  refine wF rfl ?_
  simp only [List.map_cons, List.map_nil, List.replicate_succ, List.replicate_zero, List.cons_append, List.nil_append, Nat.reduceSub]
  repeat' wtm_at "mi"
  exact ⟨⟨rfl, rfl⟩, wR_ofE (look_bad b) ⟨rfl, rfl, rfl⟩⟩
theorem is_between_bad {h : MH} {d x : Dv} (b : BadW h d) : M_is_between [x, d] h = .err "BadWorths" [] h := by
  apply err_of_wR
  unfold M_is_between
  refine wF rfl ?_
  simp only [List.map_cons, List.map_nil, List.replicate_succ, List.replicate_zero, List.cons_append, List.nil_append, Nat.reduceSub]
  repeat' wtm_at "mi"
  exact ⟨⟨rfl, rfl⟩, wR_ofE (look_bad b) ⟨rfl, rfl, rfl⟩⟩
/-- the same text at each place -/
theorem lc_same {g : Gd} {all : List Dv} {mg : MG} {te : ME} {τ : MEnv} {h : MH} {Q : Dv → MH → Prop} {E : QE} {w : Dv} {ds : List Dv} (hg : g.ok all h = true) (hl : ds.length ≤ 1000000)
    (ht : ∀ d ∈ ds, ∃ τ1, mg d τ = some τ1 ∧ wR (te τ1 h) (fun y h' => y = w ∧ h' = h) nE) (q : Q (.lst (List.replicate ds.length w)) h) : wR (lcL g all mg mYes te τ ds [] h) Q E := by
  refine wR_of (lcL_pure (fun _ => true) (fun _ => w) hg ds [] (by simp; omega) fun d hd => ?_) ?_
  · obtain ⟨τ1, e1, e2⟩ := ht d hd
    exact ⟨τ1, e1, rfl, fun _ => eq_of_wR e2⟩
  · rw [List.filter_eq_self.mpr (fun _ _ => rfl), List.nil_append, List.map_const']
    exact q
end L2.Mi.Lw

namespace L2.Mi.Lw
open PySem PySem.Spec PyProof.Rows
noncomputable def M__law_made : MF := fnM 3 5 (sSeq (sSet 3 (eC .non)) (sSeq (sTry (sExpr (eMake "Meeting" 1 2 gD_Meeting___init___2_few_liars M_Meeting___init__ (aCons (eVar 0) (aNil)) (aCons (eVar 1) (aCons (eVar 2) (aNil))))) 4 (isE ["BadNumber", "BadWorths", "BadLies", "BadHouses", "NoHouse", "NoLetter", "NotNow", "BadTable", "BadSaying", "LiarError"]) (sSet 3 (eVar 4))) (sRet (eIf (mTest (eOp2 oIs (eVar 3) (eC .non))) (eC (.str "told")) (eCall 1 0 gD__law_refusal_1 M__law_refusal (aCons (eVar 3) (aNil)) (aNil))))))
def pt__law_made_3 : List Plc := [.a 0, .a 1, .a 2]
def gD__law_made_3 : List Dv → List Dv → List Dv := fun ds zs => plc pt__law_made_3 ds [] [] zs
@[simp] theorem gE__law_made_3 (u0 : Dv) (u1 : Dv) (u2 : Dv) : gD__law_made_3 [u0, u1, u2] [] = [u0, u1, u2] := rfl
noncomputable def M_Meeting_number : MF := fnM 2 2 (sSeq (sIf (mOr (mNot (mTest (eCall 3 0 gD_is_whole_3 M_is_whole (aCons (eVar 1) (aCons (eC (.int 0)) (aCons (eOp2 oSub (eOps fLen (aCons (eFld ["Meeting"] "numbers" (eVar 0)) (aNil))) (eC (.int 1))) (aNil)))) (aNil)))) (mTest (eOp2 oIn (eVar 1) (eFld ["Book", "Company", "Echo", "Meeting", "Post", "Pulse", "TimedPulse"] "liars" (eVar 0))))) (sRaise1 "NoHouse" (eVar 1)) (sNil)) (sRet (eOp2 oIx (eFld ["Meeting"] "numbers" (eVar 0)) (eVar 1))))
def pt_Meeting_number_2 : List Plc := [.a 0, .a 1]
def gD_Meeting_number_2 : List Dv → List Dv → List Dv := fun ds zs => plc pt_Meeting_number_2 ds [] [] zs
@[simp] theorem gE_Meeting_number_2 (u0 : Dv) (u1 : Dv) : gD_Meeting_number_2 [u0, u1] [] = [u0, u1] := rfl
noncomputable def M__law_asked : MF := fnM 3 6 (sSeq (sSet 3 (eC .non)) (sSeq (sSet 4 (eC .non)) (sSeq (sTrys (sIf (mTest (eOp2 oEq (eVar 1) (eC (.int 0)))) (sExpr (eObj ["Meeting"] "meet" 1 0 gD_Meeting_meet_2 M_Meeting_meet (eVar 0) (aCons (eVar 2) (aNil)) (aNil))) (sExpr (eObj ["Meeting"] "number" 1 0 gD_Meeting_number_2 M_Meeting_number (eVar 0) (aCons (eVar 2) (aNil)) (aNil)))) 5 ((isE ["NoHouse"], sSeq (sSet 4 (eOps oTup (aCons (eC (.str "house")) (aCons (eOp1 oHouse (eVar 5)) (aNil))))) (sSet 3 (eVar 5))) :: (isE ["BadNumber", "BadWorths", "BadLies", "BadHouses", "NoHouse", "NoLetter", "NotNow", "BadTable", "BadSaying", "LiarError"], sSeq (sSet 4 (eC .non)) (sSet 3 (eVar 5))) :: [])) (sRet (eIf (mTest (eOp2 oIs (eVar 3) (eC .non))) (eC (.str "told")) (eIf (mTest (eOp2 oIs (eVar 4) (eC .non))) (eCall 1 0 gD__law_refusal_1 M__law_refusal (aCons (eVar 3) (aNil)) (aNil)) (eVar 4)))))))
def pt__law_asked_3 : List Plc := [.a 0, .a 1, .a 2]
def gD__law_asked_3 : List Dv → List Dv → List Dv := fun ds zs => plc pt__law_asked_3 ds [] [] zs
@[simp] theorem gE__law_asked_3 (u0 : Dv) (u1 : Dv) (u2 : Dv) : gD__law_asked_3 [u0, u1, u2] [] = [u0, u1, u2] := rfl
noncomputable def B4_law_4 : MS := sIf (mOr (mTest (eOp2 oNe (eCall 3 0 gD__law_made_3 M__law_made (aCons (eSl (eVar 2) mNoPart (mPart (eC (.int 6)))) (aCons (eC (.int 3)) (aCons (eOps oLst (aNil)) (aNil)))) (aNil)) (eC (.str "houses")))) (mOr (mTest (eOp2 oNe (eCall 3 0 gD__law_made_3 M__law_made (aCons (eVar 2) (aCons (eC (.int 3)) (aCons (eVar 5) (aNil)))) (aNil)) (eC (.str "houses")))) (mTest (eOp2 oNe (eCall 3 0 gD__law_made_3 M__law_made (aCons (eVar 2) (aCons (eC (.int 1)) (aCons (eOps oLst (aCons (eC (.int 0)) (aCons (eC (.int 1)) (aNil)))) (aNil)))) (aNil)) (eC (.str "houses")))))) (sRet (eC (.bl false))) (sNil)
noncomputable def B4_law_3 : MS := sSeq (sIf (mOr (mTest (eOp2 oNe (eCall 3 0 gD__law_made_3 M__law_made (aCons (eVar 2) (aCons (eVar 4) (aCons (eVar 5) (aNil)))) (aNil)) (eC (.str "number")))) (mOr (mTest (eOp2 oNe (eCall 3 0 gD__law_made_3 M__law_made (aCons (eVar 2) (aCons (eC (.int 4)) (aCons (eOps oLst (aNil)) (aNil)))) (aNil)) (eC (.str "houses")))) (mTest (eOp2 oNe (eCall 3 0 gD__law_made_3 M__law_made (aCons (eOp2 oMul (eOps oLst (aCons (eC (.int 0)) (aNil))) (eC (.int 17))) (aCons (eC (.int 1)) (aCons (eOps oLst (aNil)) (aNil)))) (aNil)) (eC (.str "houses")))))) (sRet (eC (.bl false))) (sNil)) B4_law_4
noncomputable def B4_law_2 : MS := sSeq (sIf (mTest (eOp2 oNe (eLc (iVal (eOps oLst (aCons (eOps oLst (aNil)) (aCons (eC .non) (aCons (eOps fTuple (aCons (eVar 2) (aNil))) (aCons (eOps oLst (aCons (eC .non) (aNil))) (aNil))))))) (mgName 8) (mYes) (eCall 3 0 gD__law_made_3 M__law_made (aCons (eVar 8) (aCons (eVar 4) (aCons (eVar 5) (aNil)))) (aNil)) [8]) (eOp2 oMul (eOps oLst (aCons (eC (.str "worths")) (aNil))) (eC (.int 4))))) (sRet (eC (.bl false))) (sNil)) B4_law_3
noncomputable def B4_law_1 : MS := sSeq (sSet 5 (eCall 2 0 gD__law_pick_2 M__law_pick (aCons (eVar 1) (aCons (eOps oLst (aCons (eOps oLst (aCons (eC (.int 7)) (aNil))) (aCons (eOps oLst (aCons (eC (.int 1)) (aCons (eC (.int 0)) (aNil)))) (aCons (eOps oLst (aCons (eC (.int 0)) (aCons (eC (.int 0)) (aNil)))) (aCons (eC .non) (aCons (eC (.int 5)) (aCons (eOps oLst (aCons (eC (.bl true)) (aNil))) (aCons (eOps oLst (aCons (eC (.int 0)) (aCons (eC (.int 1)) (aCons (eC (.int 2)) (aCons (eC (.int 3)) (aNil)))))) (aCons (eC (.str "0")) (aCons (eOps oLst (aCons (eOp2 oSub (eC (.int 0)) (eC (.int 1))) (aNil))) (aNil))))))))))) (aNil))) (aNil))) B4_law_2
noncomputable def B4_law_0 : MS := sSeq (sSet 4 (eCall 2 0 gD__law_pick_2 M__law_pick (aCons (eVar 1) (aCons (eOps oLst (aCons (eC (.int 6)) (aCons (eOp2 oSub (eC (.int 0)) (eC (.int 1))) (aCons (eC (.bl true)) (aCons (eC .non) (aCons (eC (.str "1")) (aNil))))))) (aNil))) (aNil))) B4_law_1
noncomputable def S_law_8 : MS := sRet (eAnd (eOp2 oEq (eCall 3 0 gD__law_asked_3 M__law_asked (aCons (eVar 6) (aCons (eC (.int 0)) (aCons (eDisp2 (eOps oTup (aCons (eC (.int 1)) (aCons (eC (.int 4)) (aNil)))) (eC (.int 5)) (eOps oTup (aCons (eC (.int 4)) (aCons (eC (.int 0)) (aNil)))) (eC (.int 1000000))) (aNil)))) (aNil)) (eC (.str "told"))) (eOp2 oEq (eObj ["Meeting"] "rounds" 0 0 gD_Meeting_rounds_1 M_Meeting_rounds (eVar 6) aNil (aNil)) (eC (.int 1))))
noncomputable def S_law_7 : MS := sSeq (sFor (iVal (eOps oLst (aCons (eC (.int 1)) (aCons (eC (.int 4)) (aCons (eC (.int 7)) (aCons (eOp2 oSub (eC (.int 0)) (eC (.int 1))) (aCons (eC (.bl true)) (aCons (eC .non) (aCons (eC (.str "0")) (aNil)))))))))) (mgName 8) (sIf (mTest (eOp2 oNe (eCall 3 0 gD__law_asked_3 M__law_asked (aCons (eVar 6) (aCons (eC (.int 1)) (aCons (eVar 8) (aNil)))) (aNil)) (eOps oTup (aCons (eC (.str "house")) (aCons (eVar 8) (aNil)))))) (sRet (eC (.bl false))) (sNil))) S_law_8
noncomputable def S_law_6 : MS := sSeq (sFor (iVal (eOps oLst (aCons (eC .non) (aCons (eC (.int 5)) (aCons (eOps oLst (aNil)) (aCons (eDisp1 (eOps oTup (aCons (eC (.int 0)) (aCons (eC (.int 1)) (aNil)))) (eC (.int 5))) (aCons (eDisp1 (eOps oTup (aCons (eC (.int 1)) (aCons (eC (.int 7)) (aNil)))) (eC (.int 5))) (aCons (eDisp1 (eOps oTup (aCons (eC (.int 1)) (aCons (eC (.int 0)) (aNil)))) (eC .non)) (aCons (eDisp1 (eOps oTup (aCons (eC (.int 1)) (aCons (eC (.int 0)) (aNil)))) (eC (.int 1000001))) (aCons (eDisp1K (eC (.int 1)) (eC (.int 5))) (aCons (eDisp1 (eOps oTup (aCons (eC (.int 1)) (aNil))) (eC (.int 5))) (aCons (eDispO (eOps oTup (aCons (eC (.bl true)) (aCons (eC (.int 0)) (aNil)))) (eC (.int 5))) (aNil))))))))))))) (mgName 8) (sIf (mOr (mTest (eOp2 oNe (eCall 3 0 gD__law_asked_3 M__law_asked (aCons (eVar 6) (aCons (eC (.int 0)) (aCons (eVar 8) (aNil)))) (aNil)) (eC (.str "lies")))) (mOr (mTest (eOp2 oNe (eObj ["Meeting"] "numbers_now" 0 0 gD_Meeting_numbers_now_1 M_Meeting_numbers_now (eVar 6) aNil (aNil)) (eVar 7))) (mTest (eOp2 oNe (eObj ["Meeting"] "rounds" 0 0 gD_Meeting_rounds_1 M_Meeting_rounds (eVar 6) aNil (aNil)) (eC (.int 0)))))) (sRet (eC (.bl false))) (sNil))) S_law_7
noncomputable def S_law_5 : MS := sSeq (sSet 7 (eObj ["Meeting"] "numbers_now" 0 0 gD_Meeting_numbers_now_1 M_Meeting_numbers_now (eVar 6) aNil (aNil))) S_law_6
noncomputable def S_law_4 : MS := sSeq (sSet 6 (eMake "Meeting" 1 2 gD_Meeting___init___2_few_liars M_Meeting___init__ (aCons (eVar 2) (aNil)) (aCons (eC (.int 3)) (aCons (eOps oLst (aCons (eC (.int 1)) (aCons (eC (.int 4)) (aNil)))) (aNil))))) S_law_5
noncomputable def S_law_3 : MS := sSeq (sIf (mOr (mTest (eOp2 oNe (eCall 3 0 gD__law_made_3 M__law_made (aCons (eVar 2) (aCons (eC (.int 3)) (aCons (eOps oTup (aCons (eC (.int 0)) (aCons (eC (.int 3)) (aCons (eC (.int 6)) (aNil))))) (aNil)))) (aNil)) (eC (.str "told")))) (mTest (eOp2 oNe (eCall 3 0 gD__law_made_3 M__law_made (aCons (eOp2 oMul (eOps oLst (aCons (eC (.int 0)) (aNil))) (eC (.int 16))) (aCons (eC (.int 5)) (aCons (eOps oLst (aCons (eC (.int 15)) (aNil))) (aNil)))) (aNil)) (eC (.str "told"))))) (sRet (eC (.bl false))) (sNil)) S_law_4
noncomputable def S_law_2 : MS := sSeq (sFor (iRange1 (aCons (eC (.int 4)) (aNil))) (mgName 3) (B4_law_0)) S_law_3
noncomputable def S_law_1 : MS := sSeq (sSet 2 (eLc (iRange1 (aCons (eC (.int 7)) (aNil))) (mgName 9) (mYes) (eCall 1 0 gD__law_number_1 M__law_number (aCons (eVar 1) (aNil)) (aNil)) [9])) S_law_2
noncomputable def S_law_0 : MS := sSeq (sSet 1 (eCall 1 0 gD__law_town_1 M__law_town (aCons (eVar 0) (aNil)) (aNil))) S_law_1
noncomputable def M_law : MF := fnM 1 10 (S_law_0)

local macro_rules | `(tactic| wtm_at "mi") => `(tactic| first
  | (with_reducible apply wS_seq) | (with_reducible apply wS_set) | (with_reducible apply wS_if) | (with_reducible apply wS_ret) | (with_reducible apply wS_retF) | (with_reducible apply wS_expr) | (with_reducible apply wS_setix) | (with_reducible apply wS_nil) | (with_reducible apply wS_raise) | (with_reducible apply wS_asg) | (with_reducible apply wS_par)
  | ((with_reducible refine' wE_var ?e ?_); (case e => exact rfl)) | (with_reducible apply wE_c) | (with_reducible apply wE_op2) | (with_reducible apply wE_op1) | (with_reducible apply wE_ops) | (with_reducible apply wE_call) | (with_reducible apply wA_cons) | (with_reducible apply wA_nil)
  | (with_reducible apply wE_and) | (with_reducible apply wE_or) | (with_reducible apply wE_not) | (with_reducible apply wE_if) | (with_reducible apply wT_test) | (with_reducible apply wE_chain) | (with_reducible apply wE_sl) | (with_reducible apply wO_none) | (with_reducible apply wO_some)
  | (with_reducible apply wT_and) | (with_reducible apply wT_or) | (with_reducible apply wT_not) | (with_reducible apply wT_yes) | (with_reducible apply wE_mth) | (with_reducible apply wS_for) | (with_reducible apply wI_val) | (with_reducible apply wI_range1) | (with_reducible apply wI_range2) | (with_reducible apply wI_zip) | (with_reducible apply wE_sc) | (with_reducible apply wE_lc)
  | (with_reducible apply wV_add) | (with_reducible apply wV_sub) | (with_reducible apply wV_neg) | (with_reducible apply wV_lt) | (with_reducible apply wV_le) | (with_reducible apply wV_gt) | (with_reducible apply wV_ge) | (with_reducible apply wV_eq) | (with_reducible apply wV_ne)
  | ((with_reducible refine' wV_mul ?c ?_); (case c => omega)) | ((with_reducible refine' wV_mod ?c ?_); (case c => omega)) | ((with_reducible refine' wV_div ?c ?_); (case c => omega)) | ((with_reducible refine' wV_pow ?c ?_); (case c => omega))
  | (with_reducible apply wE_fld) | (with_reducible apply wS_fld) | (with_reducible apply wE_make) | (with_reducible apply wE_obj) | (with_reducible apply wS_try) | (with_reducible apply wE_mthR) | (with_reducible apply wE_dct0) | ((with_reducible refine' wE_isE ?c ?_); (case c => decide)) | (with_reducible apply wV_isNon) | (with_reducible apply wV_isNotNon)
  | (with_reducible refine ⟨_, rfl, ?_⟩) | (dsimp only [List.set_cons_zero, List.set_cons_succ]))
local macro_rules | `(tactic| wtm_at "m0") => `(tactic| first
  | (with_reducible apply wS_seq) | (with_reducible apply wS_set) | (with_reducible apply wS_ret) | (with_reducible apply wS_retF) | (with_reducible apply wS_expr) | (with_reducible apply wS_setix) | (with_reducible apply wS_nil) | (with_reducible apply wS_raise) | (with_reducible apply wS_asg) | (with_reducible apply wS_par)
  | ((with_reducible refine' wE_var ?e ?_); (case e => exact rfl)) | (with_reducible apply wE_c) | (with_reducible apply wE_op2) | (with_reducible apply wE_op1) | (with_reducible apply wE_ops) | (with_reducible apply wE_call) | (with_reducible apply wA_cons) | (with_reducible apply wA_nil)
  | (with_reducible apply wE_and) | (with_reducible apply wE_or) | (with_reducible apply wE_not) | (with_reducible apply wE_if) | (with_reducible apply wT_test) | (with_reducible apply wE_chain) | (with_reducible apply wE_sl) | (with_reducible apply wO_none) | (with_reducible apply wO_some)
  | (with_reducible apply wT_and) | (with_reducible apply wT_or) | (with_reducible apply wT_not) | (with_reducible apply wT_yes) | (with_reducible apply wE_mth) | (with_reducible apply wS_for) | (with_reducible apply wI_val) | (with_reducible apply wI_range1) | (with_reducible apply wI_range2) | (with_reducible apply wI_zip) | (with_reducible apply wE_sc) | (with_reducible apply wE_lc)
  | (with_reducible apply wV_add) | (with_reducible apply wV_sub) | (with_reducible apply wV_neg) | (with_reducible apply wV_lt) | (with_reducible apply wV_le) | (with_reducible apply wV_gt) | (with_reducible apply wV_ge) | (with_reducible apply wV_eq) | (with_reducible apply wV_ne)
  | ((with_reducible refine' wV_mul ?c ?_); (case c => omega)) | ((with_reducible refine' wV_mod ?c ?_); (case c => omega)) | ((with_reducible refine' wV_div ?c ?_); (case c => omega)) | ((with_reducible refine' wV_pow ?c ?_); (case c => omega))
  | (with_reducible apply wE_fld) | (with_reducible apply wS_fld) | (with_reducible apply wE_make) | (with_reducible apply wE_obj) | (with_reducible apply wS_try) | (with_reducible apply wE_mthR) | (with_reducible apply wE_dct0) | ((with_reducible refine' wE_isE ?c ?_); (case c => decide)) | (with_reducible apply wV_isNon) | (with_reducible apply wV_isNotNon)
  | (with_reducible refine ⟨_, rfl, ?_⟩) | (dsimp only [List.set_cons_zero, List.set_cons_succ]))
local macro_rules | `(tactic| wtm_at "mi") => `(tactic| first
  | (with_reducible apply wE_get2) | (with_reducible apply wE_get1) | (with_reducible apply wE_setdN) | (with_reducible apply wE_dctT) | (with_reducible apply wE_dctK) | (with_reducible apply wE_dct0T) | (with_reducible apply wE_dc) | (with_reducible apply wE_lcC) | (with_reducible apply wS_raise1)
  | ((with_reducible refine' wE_frzV ?e ?_); (case e => exact rfl)) | (with_reducible apply wI_enum) | (with_reducible apply wS_fldAug) | (with_reducible apply wS_trys) | ((with_reducible refine' wS_forK ?e ?_); (case e => exact rfl)))
local macro_rules | `(tactic| wtm_at "m0") => `(tactic| first
  | (with_reducible apply wE_get2) | (with_reducible apply wE_get1) | (with_reducible apply wE_setdN) | (with_reducible apply wE_dctT) | (with_reducible apply wE_dctK) | (with_reducible apply wE_dct0T) | (with_reducible apply wE_dc) | (with_reducible apply wE_lcC) | (with_reducible apply wS_raise1)
  | ((with_reducible refine' wE_frzV ?e ?_); (case e => exact rfl)) | (with_reducible apply wI_enum) | (with_reducible apply wS_fldAug) | (with_reducible apply wS_trys) | ((with_reducible refine' wS_forK ?e ?_); (case e => exact rfl)))
section
variable {D : Ew} {i : Nat} {c : Str} {xs : List Dv} {τ : MEnv} {h : MH} {p : Str → Bool} {ms : MS} {r : List ((Str → Bool) × MS)}
theorem catch_hit (hE : isE EXCS c = true) (hp : p c = true) (w : wS (ms (τ.set i (some (.exc c xs))) h) { N := fun τ2 h2 => D.N (τ2.set i none) h2, R := D.R, B := fun τ2 h2 => D.B (τ2.set i none) h2, C := fun τ2 h2 => D.C (τ2.set i none) h2, E := fun _ _ _ _ => False }) : wS (sCatch i c xs τ h ((p, ms) :: r)) D := by
  unfold sCatch
  rw [if_pos hE, if_pos hp]
  cases e : ms (τ.set i (some (.exc c xs))) h with
  | nx τ1 h1 => rw [e] at w; with_unfolding_all exact w
  | rt d h1 => rw [e] at w; with_unfolding_all exact w
  | bk τ1 h1 => rw [e] at w; with_unfolding_all exact w
  | ct τ1 h1 => rw [e] at w; with_unfolding_all exact w
  | stuck => rw [e] at w; with_unfolding_all exact w
  | err c xs τ1 h1 => rw [e] at w; with_unfolding_all exact w
theorem catch_miss (hE : isE EXCS c = true) (hp : p c = false) (w : wS (sCatch i c xs τ h r) D) : wS (sCatch i c xs τ h ((p, ms) :: r)) D := by
  unfold sCatch
  rw [if_pos hE, if_neg (by rw [hp]; exact Bool.false_ne_true)]
  exact w
end
abbrev LE : List Str := ["BadNumber", "BadWorths", "BadLies", "BadHouses", "NoHouse", "NoLetter", "NotNow", "BadTable", "BadSaying", "LiarError"]
section
variable {h h1 : MH} {a0 a1 a2 d : Dv} {c w : Str}
theorem asked_err {k : Int} {t : Dv} (hk : k = 0) {i : Nat} {C : List (Str × Dv)} (o : h[i]? = some (.ins "Meeting" C)) (ho : C.lookup ("meet" : Str) = none) (x : wR (M_Meeting_meet [.obj i, t] h) (fun _ _ => False) (fun c' xs h' => c' = c ∧ xs = [] ∧ h' = h1)) (h2 : isE EXCS c = true) (h3 : isE ["NoHouse"] c = false) (h4 : isE LE c = true) (hr : M__law_refusal [.exc c []] h1 = .ok (.str w) h1) :
    M__law_asked [.obj i, .int k, t] h = .ok (.str w) h1 := by
  subst hk
  suffices z : wR (M__law_asked [.obj i, .int 0, t] h) (fun d h' => d = .str w ∧ h' = h1) nE by
    obtain ⟨a, h', e1, rfl, rfl⟩ := ex_of_wR z
    exact e1
  unfold M__law_asked
  refine wF rfl ?_
  simp only [List.map_cons, List.map_nil, List.replicate_succ, List.replicate_zero, List.cons_append, List.nil_append, Nat.reduceSub]
  repeat' wtm_at "m0"
  apply wS_if
  repeat' wtm_at "m0"
  refine ⟨fun _ => ?_, fun z => absurd z (by decide)⟩
  repeat' wtm_at "m0"
  refine ⟨_, _, _, insOf_at o, by decide, ho, ?_⟩
  repeat' wtm_at "m0"
  refine ⟨⟨rfl, rfl⟩, wR_mono x (fun _ _ z => z.elim) fun c' xs h' z => ?_⟩
  obtain ⟨rfl, rfl, rfl⟩ := z
  refine catch_miss h2 h3 ?_
  refine catch_hit h2 h4 ?_
  repeat' wtm_at "m0"
  refine ⟨fun z => (by cases z), fun _ => ?_⟩
  repeat' wtm_at "m0"
  refine ⟨fun _ => ?_, fun z => (by cases z)⟩
  repeat' wtm_at "m0"
  exact ⟨⟨rfl, rfl⟩, wR_of hr ⟨rfl, rfl⟩⟩
theorem asked_house {t : Dv} {i : Nat} {C : List (Str × Dv)} (o : h[i]? = some (.ins "Meeting" C)) (ho : C.lookup ("number" : Str) = none) (x : M_Meeting_number [.obj i, t] h = .err "NoHouse" [t] h) : M__law_asked [.obj i, .int 1, t] h = .ok (.tup [.str "house", t]) h := by
  suffices z : wR (M__law_asked [.obj i, .int 1, t] h) (fun y h' => y = .tup [.str "house", t] ∧ h' = h) nE by
    obtain ⟨a, h', e1, rfl, rfl⟩ := ex_of_wR z
    exact e1
  unfold M__law_asked
  refine wF rfl ?_
  simp only [List.map_cons, List.map_nil, List.replicate_succ, List.replicate_zero, List.cons_append, List.nil_append, Nat.reduceSub]
  repeat' wtm_at "m0"
  apply wS_if
  repeat' wtm_at "m0"
  refine ⟨fun z => absurd z (by decide), fun _ => ?_⟩
  repeat' wtm_at "m0"
  refine ⟨_, _, _, insOf_at o, by decide, ho, ?_⟩
  repeat' wtm_at "m0"
  refine ⟨⟨rfl, rfl⟩, wR_ofE x ?_⟩
  refine catch_hit rfl rfl ?_
  repeat' wtm_at "m0"
  refine wR_of (a := t) rfl ?_
  repeat' wtm_at "m0"
  refine wR_of (a := .tup [.str "house", t]) rfl ?_
  repeat' wtm_at "m0"
  refine ⟨fun z => (by cases z), fun _ => ?_⟩
  repeat' wtm_at "m0"
  refine ⟨fun z => (by cases z), fun _ => ?_⟩
  repeat' wtm_at "m0"
  exact ⟨rfl, rfl⟩
theorem asked_ok {t : Dv} {i : Nat} {C : List (Str × Dv)} (o : h[i]? = some (.ins "Meeting" C)) (ho : C.lookup ("meet" : Str) = none) (x : M_Meeting_meet [.obj i, t] h = .ok .non h1) : M__law_asked [.obj i, .int 0, t] h = .ok (.str "told") h1 := by
  suffices z : wR (M__law_asked [.obj i, .int 0, t] h) (fun y h' => y = .str "told" ∧ h' = h1) nE by
    obtain ⟨a, h', e1, rfl, rfl⟩ := ex_of_wR z
    exact e1
  unfold M__law_asked
  refine wF rfl ?_
  simp only [List.map_cons, List.map_nil, List.replicate_succ, List.replicate_zero, List.cons_append, List.nil_append, Nat.reduceSub]
  repeat' wtm_at "m0"
  apply wS_if
  repeat' wtm_at "m0"
  refine ⟨fun _ => ?_, fun z => absurd z (by decide)⟩
  repeat' wtm_at "m0"
  refine ⟨_, _, _, insOf_at o, by decide, ho, ?_⟩
  repeat' wtm_at "m0"
  refine ⟨⟨rfl, rfl⟩, wR_of x ?_⟩
  repeat' wtm_at "m0"
  refine ⟨fun _ => ?_, fun z => (by cases z)⟩
  repeat' wtm_at "m0"
  exact ⟨rfl, rfl⟩
end
/-! ### what is no meeting -/
section
variable {h : MH} {i : Nat} {d f l : Dv}
theorem init_worths (b : BadW h d) : M_Meeting___init__ [.obj i, d, f, l] h = .err "BadWorths" [] h := by
  apply err_of_wR
  unfold M_Meeting___init__
  refine wF rfl ?_
  simp only [List.map_cons, List.map_nil, List.replicate_succ, List.replicate_zero, List.cons_append, List.nil_append, Nat.reduceSub]
  repeat' wtm_at "m0"
  exact ⟨⟨rfl, rfl⟩, wR_ofE (look_bad b) ⟨rfl, rfl, rfl⟩⟩
theorem init_few {ns : List Int} (w : OkW ns) (ht : tyd h f) (hf : isWh 0 5 f = false) : M_Meeting___init__ [.obj i, .lst (ns.map .int), f, l] h = .err "BadNumber" [] h := by
  apply err_of_wR
  unfold M_Meeting___init__
  refine wF rfl ?_
  simp only [List.map_cons, List.map_nil, List.replicate_succ, List.replicate_zero, List.cons_append, List.nil_append, Nat.reduceSub]
  repeat' wtm_at "m0"
  refine ⟨⟨rfl, rfl⟩, wR_of (look_worths_ok rfl w.l1 w.l2 w.b) ?_⟩
  repeat' wtm_at "m0"
  exact ⟨⟨rfl, rfl⟩, wR_ofE (look_few_bad ht hf) ⟨rfl, rfl, rfl⟩⟩
theorem init_len {ns : List Int} {k : Nat} (w : OkW ns) (hk : k ≤ 5) (hbad : 16 < ns.length ∨ ns.length ≤ 2 * k) : M_Meeting___init__ [.obj i, .lst (ns.map .int), .int k, l] h = .err "BadHouses" [] h := by
  apply err_of_wR
  unfold M_Meeting___init__
  refine wF rfl ?_
  simp only [List.map_cons, List.map_nil, List.replicate_succ, List.replicate_zero, List.cons_append, List.nil_append, Nat.reduceSub]
  repeat' wtm_at "m0"
  refine ⟨⟨rfl, rfl⟩, wR_of (look_worths_ok rfl w.l1 w.l2 w.b) ?_⟩
  repeat' wtm_at "m0"
  refine ⟨⟨rfl, rfl⟩, wR_of (look_number_ok (by omega) (by omega)) ?_⟩
  repeat' wtm_at "m0"
  apply wS_if
  repeat' wtm_at "m0"
  refine wR_of (fLen_of (xs := ns.map .int) rfl) ?_
  repeat' wtm_at "m0"
  rw [List.length_map]
  repeat' wtm_at "m0"
  refine ⟨fun z => ?_, fun _ => ⟨fun _ => ?_, fun z => absurd z (by decide)⟩⟩
  · have z := of_decide_eq_false z
    repeat' wtm_at "m0"
    refine wR_of (fLen_of (xs := ns.map .int) rfl) ?_
    repeat' wtm_at "m0"
    rw [List.length_map]
    repeat' wtm_at "m0"
    refine ⟨fun _ => ?_, fun z2 => absurd (of_decide_eq_false z2) (by omega)⟩
    repeat' wtm_at "m0"
    exact ⟨rfl, rfl, rfl⟩
  · repeat' wtm_at "m0"
    exact ⟨rfl, rfl, rfl⟩
theorem init_liars {ns : List Int} {k : Nat} (w : OkW ns) (hn : ns.length ≤ 16) (hk : k ≤ 5) (h2 : 2 * k < ns.length) (hl : M_look_liars [l, .int ns.length, .int k] h = .err "BadHouses" [] h) : M_Meeting___init__ [.obj i, .lst (ns.map .int), .int k, l] h = .err "BadHouses" [] h := by
  apply err_of_wR
  unfold M_Meeting___init__
  refine wF rfl ?_
  simp only [List.map_cons, List.map_nil, List.replicate_succ, List.replicate_zero, List.cons_append, List.nil_append, Nat.reduceSub]
  repeat' wtm_at "m0"
  refine ⟨⟨rfl, rfl⟩, wR_of (look_worths_ok rfl w.l1 w.l2 w.b) ?_⟩
  repeat' wtm_at "m0"
  refine ⟨⟨rfl, rfl⟩, wR_of (look_number_ok (by omega) (by omega)) ?_⟩
  repeat' wtm_at "m0"
  apply if_no
  · apply or_no
    · repeat' wtm_at "m0"
      refine wR_of (fLen_of (xs := ns.map .int) rfl) ?_
      repeat' wtm_at "m0"
      rw [List.length_map]
      exact ⟨decide_eq_false (by omega), rfl⟩
    · repeat' wtm_at "m0"
      refine wR_of (fLen_of (xs := ns.map .int) rfl) ?_
      repeat' wtm_at "m0"
      rw [List.length_map]
      repeat' wtm_at "m0"
      exact ⟨decide_eq_false (by omega), rfl⟩
  repeat' wtm_at "m0"
  refine wR_of (fLen_of (xs := ns.map .int) rfl) ?_
  repeat' wtm_at "m0"
  rw [List.length_map]
  exact ⟨⟨rfl, rfl⟩, wR_ofE hl ⟨rfl, rfl, rfl⟩⟩
theorem made_err {c nm : Str} (x : M_Meeting___init__ [.obj h.length, d, f, l] (h ++ [.ins "Meeting" []]) = .err c [] (h ++ [.ins "Meeting" []])) (h4 : isE LE c = true) (hr : ∀ h, M__law_refusal [.exc c []] h = .ok (.str nm) h) :
    M__law_made [d, f, l] h = .ok (.str nm) (h ++ [.ins "Meeting" []]) := by
  suffices z : wR (M__law_made [d, f, l] h) (fun d h' => d = .str nm ∧ h' = h ++ [.ins "Meeting" []]) nE by
    obtain ⟨a, h', e1, rfl, rfl⟩ := ex_of_wR z
    exact e1
  unfold M__law_made
  refine wF rfl ?_
  simp only [List.map_cons, List.map_nil, List.replicate_succ, List.replicate_zero, List.cons_append, List.nil_append, Nat.reduceSub]
  repeat' wtm_at "m0"
  refine ⟨⟨rfl, rfl⟩, wR_ofE x ⟨h4, ?_⟩⟩
  repeat' wtm_at "m0"
  refine ⟨fun z => (by cases z), fun _ => ?_⟩
  repeat' wtm_at "m0"
  exact ⟨⟨rfl, rfl⟩, wR_of (hr _) ⟨rfl, rfl⟩⟩
theorem made_at {ns foes : List Int} {k : Nat} (hd : l = .lst (foes.map .int) ∨ l = .tup (foes.map .int)) (w : OkW ns) (hn : ns.length ≤ 16) (hf : k ≤ 5) (h2 : 2 * k < ns.length) (wf : Foes ns.length k foes) :
    M_Meeting___init__ [.obj h.length, .lst (ns.map .int), .int k, l] (h ++ [.ins "Meeting" []]) = .ok .non (h ++ [mtC (h.length + 1) k foes 0, .lst (ns.map .int)]) := by
  have e : (h ++ [Cell.ins "Meeting" []])[h.length]? = some (.ins "Meeting" []) := by rw [List.getElem?_append_right (Nat.le_refl _), Nat.sub_self]; rfl
  have m := meeting_made hd e w hn hf h2 wf
  rw [m]
  congr 1
  rw [List.append_assoc, List.set_append_right _ _ (Nat.le_refl _), Nat.sub_self, List.length_append]
  rfl
theorem made_told {ns foes : List Int} {k : Nat} (hd : l = .lst (foes.map .int) ∨ l = .tup (foes.map .int)) (w : OkW ns) (hn : ns.length ≤ 16) (hf : k ≤ 5) (h2 : 2 * k < ns.length) (wf : Foes ns.length k foes) :
    ∃ g, M__law_made [.lst (ns.map .int), .int k, l] h = .ok (.str "told") (h ++ g) := by
  have m := made_at (h := h) hd w hn hf h2 wf
  refine ⟨[mtC (h.length + 1) k foes 0, .lst (ns.map .int)], ?_⟩
  suffices z : wR (M__law_made [.lst (ns.map .int), .int k, l] h) (fun d h' => d = .str "told" ∧ h' = h ++ [mtC (h.length + 1) k foes 0, .lst (ns.map .int)]) nE by
    obtain ⟨a, h', e1, rfl, rfl⟩ := ex_of_wR z
    exact e1
  unfold M__law_made
  refine wF rfl ?_
  simp only [List.map_cons, List.map_nil, List.replicate_succ, List.replicate_zero, List.cons_append, List.nil_append, Nat.reduceSub]
  repeat' wtm_at "m0"
  refine ⟨⟨rfl, rfl⟩, wR_of m ⟨rfl, ?_⟩⟩
  repeat' wtm_at "m0"
  refine ⟨fun _ => ?_, fun z => (by cases z)⟩
  repeat' wtm_at "m0"
  exact ⟨rfl, rfl⟩
end
def fewQ : List Dv := [.int 6, .int (0 - 1), .bl true, .non, .str "1"]
def oddQ : List Dv := [.lst [.int 7], .lst [.int 1, .int 0], .lst [.int 0, .int 0], .non, .int 5, .lst [.bl true], .lst [.int 0, .int 1, .int 2, .int 3], .str "0", .lst [.int (0 - 1)]]
theorem few_bad {h : MH} {f : Dv} (hf : f ∈ fewQ) : tyd h f ∧ isWh 0 5 f = false := by
  have : f = .int 6 ∨ f = .int (0 - 1) ∨ f = .bl true ∨ f = .non ∨ f = .str "1" := by simpa [fewQ] using hf
  rcases this with rfl | rfl | rfl | rfl | rfl <;> exact ⟨rfl, rfl⟩
theorem odd_bad {h : MH} {l : Dv} (hl : l ∈ oddQ) : M_look_liars [l, .int ((7 : Nat) : Int), .int ((3 : Nat) : Int)] h = .err "BadHouses" [] h := by
  have : l = .lst [.int 7] ∨ l = .lst [.int 1, .int 0] ∨ l = .lst [.int 0, .int 0] ∨ l = .non ∨ l = .int 5 ∨ l = .lst [.bl true] ∨ l = .lst [.int 0, .int 1, .int 2, .int 3] ∨ l = .str "0" ∨ l = .lst [.int (0 - 1)] := by simpa [oddQ] using hl
  rcases this with rfl | rfl | rfl | rfl | rfl | rfl | rfl | rfl | rfl <;> with_unfolding_all rfl
theorem two_bad {h : MH} : M_look_liars [.lst [.int 0, .int 1], .int ((7 : Nat) : Int), .int ((1 : Nat) : Int)] h = .err "BadHouses" [] h := by with_unfolding_all rfl
section
variable {t : Tw} {g : MH} {d f l : Dv} {ns : List Int}
theorem t_app {g2 : MH} : T t g ++ g2 = T t (g ++ g2) := rfl
theorem m_worths (b : ∀ h, BadW h d) : M__law_made [d, f, l] (T t g) = .ok (.str "worths") (T t (g ++ [.ins "Meeting" []])) := made_err (init_worths (b _)) rfl fun _ => refusal_worths
theorem m_few (w : OkW ns) (hf : f ∈ fewQ) : M__law_made [.lst (ns.map .int), f, l] (T t g) = .ok (.str "number") (T t (g ++ [.ins "Meeting" []])) := by
  obtain ⟨h1, h2⟩ := few_bad (h := T t g ++ [.ins "Meeting" []]) hf
  exact made_err (init_few w h1 h2) rfl fun _ => refusal_number
theorem m_len {k : Nat} (w : OkW ns) (hk : k ≤ 5) (hbad : 16 < ns.length ∨ ns.length ≤ 2 * k) : M__law_made [.lst (ns.map .int), .int k, l] (T t g) = .ok (.str "houses") (T t (g ++ [.ins "Meeting" []])) := made_err (init_len w hk hbad) rfl fun _ => refusal_houses
theorem m_liars {k : Nat} (w : OkW ns) (hn : ns.length ≤ 16) (hk : k ≤ 5) (h2 : 2 * k < ns.length) (hl : ∀ h, M_look_liars [l, .int ns.length, .int k] h = .err "BadHouses" [] h) : M__law_made [.lst (ns.map .int), .int k, l] (T t g) = .ok (.str "houses") (T t (g ++ [.ins "Meeting" []])) := made_err (init_liars w hn hk h2 (hl _)) rfl fun _ => refusal_houses
end
/-! ### lies that are none -/
def talesQ : List Dv := [.non, .int 5, .lst [], .dct [.non, .tup [.tup [.int 0, .int 1], .int 5]], .dct [.non, .tup [.tup [.int 1, .int 7], .int 5]], .dct [.non, .tup [.tup [.int 1, .int 0], .non]], .dct [.non, .tup [.tup [.int 1, .int 0], .int 1000001]], .dct [.tup [.int 1, .int 5]], .dct [.non, .tup [.tup [.int 1], .int 5]], .odd]
theorem lies_bad {h : MH} {d : Dv} (hd : d ∈ talesQ) : M_look_lies [d, .lst [.int 1, .int 4], .int ((7 : Nat) : Int)] h = .err "BadLies" [] h := by
  have : d = .non ∨ d = .int 5 ∨ d = .lst [] ∨ d = .dct [.non, .tup [.tup [.int 0, .int 1], .int 5]] ∨ d = .dct [.non, .tup [.tup [.int 1, .int 7], .int 5]] ∨ d = .dct [.non, .tup [.tup [.int 1, .int 0], .non]] ∨ d = .dct [.non, .tup [.tup [.int 1, .int 0], .int 1000001]] ∨ d = .dct [.tup [.int 1, .int 5]] ∨ d = .dct [.non, .tup [.tup [.int 1], .int 5]] ∨ d = .odd := by simpa [talesQ] using hd
  rcases this with rfl | rfl | rfl | rfl | rfl | rfl | rfl | rfl | rfl | rfl <;> with_unfolding_all rfl
def hsQ : List Dv := [.int 1, .int 4, .int 7, .int (0 - 1), .bl true, .non, .str "0"]
section
variable {h : MH} {i j : Nat} {ns : List Int} {c : Int} {d : Dv}
theorem meet_bad (m : MeAt h i j ns ((3 : Nat) : Int) [1, 4] c) (h7 : ns.length = 7) (hd : d ∈ talesQ) : M_Meeting_meet [.obj i, d] h = .err "BadLies" [] h := by
  apply err_of_wR
  unfold M_Meeting_meet
  refine wF rfl ?_
  simp only [List.map_cons, List.map_nil, List.replicate_succ, List.replicate_zero, List.cons_append, List.nil_append, Nat.reduceSub]
  repeat' wtm_at "m0"
  refine ⟨_, _, _, _, insOf_at m.o, by decide, rfl, ?_⟩
  repeat' wtm_at "m0"
  refine ⟨_, _, _, _, insOf_at m.o, by decide, rfl, ?_⟩
  repeat' wtm_at "m0"
  refine wR_of (fLen_of (rdA_of_rdL (rdL_at m.l))) ?_
  repeat' wtm_at "m0"
  rw [List.length_map, h7]
  exact ⟨⟨rfl, rfl⟩, wR_ofE (lies_bad hd) ⟨rfl, rfl, rfl⟩⟩
theorem number_bad (m : MeAt h i j ns ((3 : Nat) : Int) [1, 4] c) (h7 : ns.length = 7) (hd : d ∈ hsQ) : M_Meeting_number [.obj i, d] h = .err "NoHouse" [d] h := by
  have hk : (tyd h d ∧ isWh 0 6 d = false) ∨ ∃ x : Int, d = .int x ∧ (x = 1 ∨ x = 4) := by
    have : d = .int 1 ∨ d = .int 4 ∨ d = .int 7 ∨ d = .int (0 - 1) ∨ d = .bl true ∨ d = .non ∨ d = .str "0" := by simpa [hsQ] using hd
    rcases this with rfl | rfl | rfl | rfl | rfl | rfl | rfl
    · exact .inr ⟨1, rfl, .inl rfl⟩
    · exact .inr ⟨4, rfl, .inr rfl⟩
    · exact .inl ⟨rfl, rfl⟩
    · exact .inl ⟨rfl, rfl⟩
    · exact .inl ⟨rfl, rfl⟩
    · exact .inl ⟨rfl, rfl⟩
    · exact .inl ⟨rfl, rfl⟩
  apply err_of_wR
  unfold M_Meeting_number
  refine wF rfl ?_
  simp only [List.map_cons, List.map_nil, List.replicate_succ, List.replicate_zero, List.cons_append, List.nil_append, Nat.reduceSub]
  repeat' wtm_at "m0"
  apply wS_if
  repeat' wtm_at "m0"
  refine ⟨_, _, _, _, insOf_at m.o, by decide, rfl, ?_⟩
  repeat' wtm_at "m0"
  refine wR_of (fLen_of (rdA_of_rdL (rdL_at m.l))) ?_
  repeat' wtm_at "m0"
  rw [List.length_map, h7]
  repeat' wtm_at "m0"
  rcases hk with ⟨ht, hd⟩ | ⟨x, rfl, hx⟩
  · refine ⟨⟨rfl, rfl⟩, wR_of (is_whole_eq ht) ?_⟩
    rw [show isWh 0 (((7 : Nat) : Int) - 1) d = false from hd]
    refine ⟨_, rfl, fun z => absurd z (by decide), fun _ => ⟨fun _ => ?_, fun z => absurd z (by decide)⟩⟩
    repeat' wtm_at "m0"
    exact ⟨rfl, rfl, rfl⟩
  · refine ⟨⟨rfl, rfl⟩, wR_of (is_whole_ok (by omega) (by omega)) ?_⟩
    repeat' wtm_at "m0"
    refine ⟨fun _ => ?_, fun z => absurd z (by decide)⟩
    repeat' wtm_at "m0"
    refine ⟨_, _, _, _, insOf_at m.o, by decide, rfl, ?_⟩
    refine wR_of (oIn_ints (xs := [1, 4]) rfl) ?_
    repeat' wtm_at "m0"
    have : decide (x ∈ ([1, 4] : List Int)) = true := decide_eq_true (by rcases hx with rfl | rfl <;> decide)
    rw [this]
    refine ⟨fun _ => ?_, fun z => absurd z (by decide)⟩
    repeat' wtm_at "m0"
    exact ⟨rfl, rfl, rfl⟩
end
def tD (d : Dv) : Dv := .tup [.str "house", d]
theorem same_tD {h : MH} {d : Dv} (hd : d ∈ hsQ) : oNe (tD d) (tD d) h = .ok (.bl false) h := by
  have : d = .int 1 ∨ d = .int 4 ∨ d = .int 7 ∨ d = .int (0 - 1) ∨ d = .bl true ∨ d = .non ∨ d = .str "0" := by simpa [hsQ] using hd
  rcases this with rfl | rfl | rfl | rfl | rfl | rfl | rfl <;> with_unfolding_all rfl
def thingsQ (ns : List Int) : List Dv := [.lst [], .non, .tup (ns.map .int), .lst [.non]]
theorem things_bad {ns : List Int} {d : Dv} (hd : d ∈ thingsQ ns) (h : MH) : BadW h d := by
  have : d = .lst [] ∨ d = .non ∨ d = .tup (ns.map .int) ∨ d = .lst [.non] := by simpa [thingsQ] using hd
  rcases this with rfl | rfl | rfl | rfl
  · exact ⟨rfl, (fun _ z => nomatch z), (fun xs e x hx => by cases e; cases hx), rfl⟩
  · exact ⟨rfl, (fun _ z => nomatch z), fun xs e => (by cases e), rfl⟩
  · exact ⟨rfl, (fun _ z => nomatch z), fun xs e => (by cases e), rfl⟩
  · exact ⟨rfl, (fun _ z => nomatch z), (fun xs e x hx => by cases e; rw [List.mem_singleton] at hx; subst hx; rfl), rfl⟩
theorem seven {ns : List Int} (h : ns.length = 7) : ∃ a b c d e f g : Int, ns = [a, b, c, d, e, f, g] := by
  match ns, h with
  | [a, b, c, d, e, f, g], _ => exact ⟨a, b, c, d, e, f, g, rfl⟩
theorem good_law : GoodM M_law := by
  intro scr hscr
  suffices w : wR (M_law [.kls (scr.map Dv.int)] []) (fun d _ => d = .bl true) nE by
    obtain ⟨a, h', e, rfl⟩ := ex_of_wR w
    exact ⟨h', e⟩
  unfold M_law
  refine wF rfl ?_
  simp only [List.map_cons, List.map_nil, List.replicate_succ, List.replicate_zero, List.cons_append, List.nil_append, Nat.reduceSub]
  unfold S_law_0
  repeat' wtm_at "m0"
  refine ⟨⟨rfl, rfl⟩, town_wp fun t => ?_⟩
  unfold S_law_1
  repeat' wtm_at "m0"
  refine ⟨by decide, ?_⟩
  refine lc_town (P := fun d => ∃ v, d = .int v ∧ -1000000 ≤ v ∧ v ≤ 1000000) ?_ ?_ ?_ ?_
  · exact fun d => ⟨_, rfl⟩
  · intro d τ1 t Q e hq
    cases e
    repeat' wtm_at "m0"
    exact ⟨⟨rfl, rfl⟩, number_wp fun v t' h1 h2 => hq _ _ ⟨v, rfl, h1, h2⟩⟩
  · rw [rangeD_len]; decide
  intro ys t1 hy1 hy2
  obtain ⟨ns, rfl, hw⟩ := ints_of hy2
  clear hy2
  have h7 : ns.length = 7 := by
    rw [rangeD_len, List.length_map] at hy1
    simpa using hy1
  clear hy1
  have w : OkW ns := ⟨by omega, by omega, hw⟩
  have w17 : OkW (List.replicate 17 0) := ⟨by decide, by decide, fun x hx => by rw [List.eq_of_mem_replicate hx]; decide⟩
  have w16 : OkW (List.replicate 16 0) := ⟨by decide, by decide, fun x hx => by rw [List.eq_of_mem_replicate hx]; decide⟩
  have w6 : OkW (ns.take 6) := ⟨by rw [List.length_take]; omega, by rw [List.length_take]; omega, fun x hx => hw x (List.mem_of_mem_take hx)⟩
  have e6 : cutD (ns.map Dv.int) none (some 6) = (ns.take 6).map Dv.int := by
    obtain ⟨a, b, c, d, e, f, g, rfl⟩ := seven h7
    rfl
  unfold S_law_2
  repeat' wtm_at "m0"
  refine ⟨by decide, ?_⟩
  refine forL_inv (fun r τ h => ∃ (t : Tw) (g : MH) (d3 d4 d5 : Option Dv), h = T t g ∧ τ = [some (.kls (scr.map .int)), some (.obj 1), some (.lst (ns.map .int)), d3, d4, d5, none, none, none, none]) _ ⟨t1, [], none, none, none, rfl, rfl⟩ ?_ ?_
  · rintro d r τ h ⟨t, g, d3, d4, d5, rfl, rfl⟩
    refine ⟨rfl, _, rfl, ?_⟩
    unfold B4_law_0
    repeat' wtm_at "m0"
    refine wR_of (a := .lst fewQ) rfl ?_
    repeat' wtm_at "m0"
    refine ⟨⟨rfl, rfl⟩, pickL_wp (by simp [fewQ]) (by decide) fun few t2 hfew => ?_⟩
    repeat' wtm_at "m0"
    unfold B4_law_1
    repeat' wtm_at "m0"
    refine wR_of (a := .lst [.int 7]) rfl ?_
    repeat' wtm_at "m0"
    refine wR_of (a := .lst [.int 1, .int 0]) rfl ?_
    repeat' wtm_at "m0"
    refine wR_of (a := .lst [.int 0, .int 0]) rfl ?_
    repeat' wtm_at "m0"
    refine wR_of (a := .lst [.bl true]) rfl ?_
    repeat' wtm_at "m0"
    refine wR_of (a := .lst [.int 0, .int 1, .int 2, .int 3]) rfl ?_
    repeat' wtm_at "m0"
    refine wR_of (a := .lst [.int (0 - 1)]) rfl ?_
    repeat' wtm_at "m0"
    refine wR_of (a := .lst oddQ) rfl ?_
    repeat' wtm_at "m0"
    refine ⟨⟨rfl, rfl⟩, pickL_wp (by simp [oddQ]) (by decide) fun odd t3 hodd => ?_⟩
    repeat' wtm_at "m0"
    unfold B4_law_2
    apply wS_seq
    apply wS_if
    repeat' wtm_at "m0"
    refine wR_of (a := .lst []) rfl ?_
    repeat' wtm_at "m0"
    refine wR_of (a := .tup (ns.map .int)) rfl ?_
    repeat' wtm_at "m0"
    refine wR_of (a := .lst [.non]) rfl ?_
    repeat' wtm_at "m0"
    refine wR_of (a := .lst (thingsQ ns)) rfl ?_
    refine wR_of (a := (thingsQ ns, Gd.free)) rfl ?_
    refine lcL_inv (fun rr acc h => ∃ (g : MH) (k : Nat), h = T t3 g ∧ k ≤ 4 ∧ rr = (thingsQ ns).drop k ∧ acc = List.replicate k (.str "worths")) _ ⟨g, 0, rfl, by decide, rfl, rfl⟩ ?_ ?_
    · rintro d rr acc h ⟨g, k, rfl, hk, er, rfl⟩
      have hk4 : k < 4 := by
        have := congrArg List.length er
        rw [List.length_drop] at this
        have e4 : (thingsQ ns).length = 4 := rfl
        rw [e4, List.length_cons] at this
        omega
      have hd : d ∈ thingsQ ns := List.mem_of_mem_drop (i := k) (by rw [← er]; exact List.mem_cons_self)
      have er2 : rr = (thingsQ ns).drop (k + 1) := by
        rw [← List.tail_drop, ← er]
        rfl
      refine ⟨rfl, _, rfl, wT_yes ⟨fun _ => ?_, fun z => (by cases z)⟩⟩
      repeat' wtm_at "m0"
      refine ⟨⟨rfl, rfl⟩, wR_of (m_worths (things_bad hd)) ?_⟩
      repeat' wtm_at "m0"
      exact ⟨by rw [List.length_replicate]; omega, _, k + 1, rfl, by omega, er2, by rw [List.replicate_succ']⟩
    rintro acc h ⟨g, k, rfl, hk, er, rfl⟩
    have hk4 : k = 4 := by
      have := congrArg List.length er
      rw [List.length_drop] at this
      have e4 : (thingsQ ns).length = 4 := rfl
      rw [e4, List.length_nil] at this
      omega
    subst hk4
    refine ⟨rfl, ?_⟩
    repeat' wtm_at "m0"
    refine wR_of (a := .lst [.str "worths"]) rfl ?_
    repeat' wtm_at "m0"
    refine wR_of (a := .lst [.str "worths", .str "worths", .str "worths", .str "worths"]) rfl ?_
    refine wR_of (a := .bl false) (by with_unfolding_all rfl) ?_
    refine ⟨_, rfl, fun z => absurd z (by decide), fun _ => ?_⟩
    apply wS_nil
    unfold B4_law_3
    apply wS_seq
    apply wS_if
    repeat' wtm_at "m0"
    refine ⟨⟨rfl, rfl⟩, wR_of (m_few w hfew) ?_⟩
    repeat' wtm_at "m0"
    refine wR_of same_number ?_
    repeat' wtm_at "m0"
    refine ⟨fun _ => ?_, fun z => absurd z (by decide)⟩
    repeat' wtm_at "m0"
    refine wR_of (a := .lst []) rfl ?_
    repeat' wtm_at "m0"
    refine ⟨⟨rfl, rfl⟩, wR_of (m_len (k := 4) w (by decide) (.inr (by omega))) ?_⟩
    repeat' wtm_at "m0"
    refine wR_of same_houses ?_
    repeat' wtm_at "m0"
    refine ⟨fun _ => ?_, fun z => absurd z (by decide)⟩
    repeat' wtm_at "m0"
    refine wR_of (a := .lst [.int 0]) rfl ?_
    repeat' wtm_at "m0"
    refine wR_of (a := .lst ((List.replicate 17 0).map .int)) rfl ?_
    repeat' wtm_at "m0"
    refine wR_of (a := .lst []) rfl ?_
    repeat' wtm_at "m0"
    refine ⟨⟨rfl, rfl⟩, wR_of (m_len (k := 1) w17 (by decide) (.inl (by decide))) ?_⟩
    repeat' wtm_at "m0"
    refine wR_of same_houses ?_
    repeat' wtm_at "m0"
    refine ⟨fun z => absurd z (by decide), fun _ => ?_⟩
    apply wS_nil
    unfold B4_law_4
    apply wS_if
    repeat' wtm_at "m0"
    refine wR_of (oSl_of rfl) ?_
    repeat' wtm_at "m0"
    rw [e6]
    refine wR_of (a := .lst []) rfl ?_
    repeat' wtm_at "m0"
    refine ⟨⟨rfl, rfl⟩, wR_of (m_len (k := 3) w6 (by decide) (.inr (by rw [List.length_take]; omega))) ?_⟩
    repeat' wtm_at "m0"
    refine wR_of same_houses ?_
    repeat' wtm_at "m0"
    refine ⟨fun _ => ?_, fun z => absurd z (by decide)⟩
    repeat' wtm_at "m0"
    refine ⟨⟨rfl, rfl⟩, wR_of (m_liars (k := 3) w (by omega) (by decide) (by omega) (fun h => by rw [h7]; exact odd_bad hodd)) ?_⟩
    repeat' wtm_at "m0"
    refine wR_of same_houses ?_
    repeat' wtm_at "m0"
    refine ⟨fun _ => ?_, fun z => absurd z (by decide)⟩
    repeat' wtm_at "m0"
    refine wR_of (a := .lst [.int 0, .int 1]) rfl ?_
    repeat' wtm_at "m0"
    refine ⟨⟨rfl, rfl⟩, wR_of (m_liars (k := 1) w (by omega) (by decide) (by omega) (fun h => by rw [h7]; exact two_bad)) ?_⟩
    repeat' wtm_at "m0"
    refine wR_of same_houses ?_
    repeat' wtm_at "m0"
    refine ⟨fun z => absurd z (by decide), fun _ => ?_⟩
    apply wS_nil
    exact ⟨_, _, _, _, _, rfl, rfl⟩
  rintro τ h ⟨t, g, d3, d4, d5, rfl, rfl⟩
  refine ⟨rfl, ?_⟩
  have wf3 : Foes ns.length 3 [0, 3, 6] := by
    rw [h7]
    exact ⟨by decide, by simp, fun x hx => by simp only [List.mem_cons, List.not_mem_nil, or_false] at hx; omega⟩
  have wf14 : Foes ns.length 3 [1, 4] := by
    rw [h7]
    exact ⟨by decide, by simp, fun x hx => by simp only [List.mem_cons, List.not_mem_nil, or_false] at hx; omega⟩
  have wf15 : Foes (List.replicate 16 (0 : Int)).length 5 [15] := by
    rw [List.length_replicate]
    exact ⟨by decide, by simp, fun x hx => by simp only [List.mem_cons, List.not_mem_nil, or_false] at hx; omega⟩
  unfold S_law_3
  apply wS_seq
  apply wS_if
  repeat' wtm_at "m0"
  refine wR_of (a := .tup [.int 0, .int 3, .int 6]) rfl ?_
  repeat' wtm_at "m0"
  obtain ⟨g2, e2⟩ := made_told (h := T t g) (k := 3) (l := .tup [.int 0, .int 3, .int 6]) (.inr rfl) w (by omega) (by decide) (by omega) wf3
  refine ⟨⟨rfl, rfl⟩, wR_of e2 ?_⟩
  repeat' wtm_at "m0"
  refine wR_of same_told ?_
  repeat' wtm_at "m0"
  refine ⟨fun _ => ?_, fun z => absurd z (by decide)⟩
  repeat' wtm_at "m0"
  refine wR_of (a := .lst [.int 0]) rfl ?_
  repeat' wtm_at "m0"
  refine wR_of (a := .lst ((List.replicate 16 0).map .int)) rfl ?_
  repeat' wtm_at "m0"
  refine wR_of (a := .lst [.int 15]) rfl ?_
  repeat' wtm_at "m0"
  obtain ⟨g3, e3⟩ := made_told (h := T t g ++ g2) (k := 5) (l := .lst [.int 15]) (.inl rfl) w16 (by decide) (by decide) (by decide) wf15
  refine ⟨⟨rfl, rfl⟩, wR_of e3 ?_⟩
  repeat' wtm_at "m0"
  refine wR_of same_told ?_
  repeat' wtm_at "m0"
  refine ⟨fun z => absurd z (by decide), fun _ => ?_⟩
  apply wS_nil
  unfold S_law_4
  repeat' wtm_at "m0"
  refine wR_of (a := .lst [.int 1, .int 4]) rfl ?_
  repeat' wtm_at "m0"
  obtain ⟨H, hH⟩ : ∃ H, T t g ++ g2 ++ g3 = H := ⟨_, rfl⟩
  rw [hH]
  refine ⟨⟨rfl, rfl⟩, wR_of (made_at (h := H) (k := 3) (.inl rfl) w (by omega) (by decide) (by omega) wf14) ⟨rfl, ?_⟩⟩
  have m : MeAt (H ++ [mtC (H.length + 1) 3 [1, 4] 0, .lst (ns.map .int)]) H.length (H.length + 1) ns ((3 : Nat) : Int) [1, 4] 0 := by
    refine ⟨?_, ?_, by omega⟩
    · rw [List.getElem?_append_right (Nat.le_refl _), Nat.sub_self]; rfl
    · rw [List.getElem?_append_right (by omega), show H.length + 1 - H.length = 1 by omega]; rfl
  obtain ⟨G, hG⟩ : ∃ G, H ++ [mtC (H.length + 1) 3 [1, 4] 0, .lst (ns.map .int)] = G := ⟨_, rfl⟩
  obtain ⟨i, hi⟩ : ∃ i, H.length = i := ⟨_, rfl⟩
  rw [hG, hi] at m
  show wS (S_law_5 [some (.kls (scr.map .int)), some (.obj 1), some (.lst (ns.map .int)), d3, d4, d5, some (.obj H.length), none, none, none] (H ++ [mtC (H.length + 1) 3 [1, 4] 0, .lst (ns.map .int)])) _
  rw [hG, hi]
  unfold S_law_5
  repeat' wtm_at "m0"
  refine ⟨_, _, _, insOf_at m.o, by decide, rfl, ?_⟩
  repeat' wtm_at "m0"
  refine ⟨⟨rfl, rfl⟩, wR_of (numbers_now_ok m (by omega)) ?_⟩
  repeat' wtm_at "m0"
  unfold S_law_6
  repeat' wtm_at "m0"
  refine wR_of (a := .lst []) rfl ?_
  repeat' wtm_at "m0"
  apply wE_disp1
  repeat' wtm_at "m0"
  refine wR_of (a := .tup [.int 0, .int 1]) rfl ?_
  repeat' wtm_at "m0"
  refine ⟨⟨_, rfl⟩, ?_⟩
  repeat' wtm_at "m0"
  apply wE_disp1
  repeat' wtm_at "m0"
  refine wR_of (a := .tup [.int 1, .int 7]) rfl ?_
  repeat' wtm_at "m0"
  refine ⟨⟨_, rfl⟩, ?_⟩
  repeat' wtm_at "m0"
  apply wE_disp1
  repeat' wtm_at "m0"
  refine wR_of (a := .tup [.int 1, .int 0]) rfl ?_
  repeat' wtm_at "m0"
  refine ⟨⟨_, rfl⟩, ?_⟩
  repeat' wtm_at "m0"
  apply wE_disp1
  repeat' wtm_at "m0"
  refine wR_of (a := .tup [.int 1, .int 0]) rfl ?_
  repeat' wtm_at "m0"
  refine ⟨⟨_, rfl⟩, ?_⟩
  repeat' wtm_at "m0"
  apply wE_disp1K
  repeat' wtm_at "m0"
  refine ⟨⟨_, rfl⟩, ?_⟩
  repeat' wtm_at "m0"
  apply wE_disp1
  repeat' wtm_at "m0"
  refine wR_of (a := .tup [.int 1]) rfl ?_
  repeat' wtm_at "m0"
  refine ⟨⟨_, rfl⟩, ?_⟩
  repeat' wtm_at "m0"
  apply wE_dispO
  repeat' wtm_at "m0"
  refine wR_of (a := .tup [.bl true, .int 0]) rfl ?_
  repeat' wtm_at "m0"
  refine ⟨rfl, ?_⟩
  repeat' wtm_at "m0"
  refine wR_of (a := .lst talesQ) rfl ?_
  refine wR_of (a := (talesQ, Gd.free)) rfl ?_
  refine forL_inv (fun r τ h => ∃ (d8 : Option Dv), (∀ d ∈ r, d ∈ talesQ) ∧ G = h ∧ τ = [some (.kls (scr.map .int)), some (.obj 1), some (.lst (ns.map .int)), d3, d4, d5, some (.obj i), some (.lst ((nowN ns [1, 4]).map .int)), d8, none]) _ ⟨none, fun _ z => z, rfl, rfl⟩ ?_ ?_
  · rintro d r τ h ⟨d8, hm, rfl, rfl⟩
    have hd := hm d List.mem_cons_self
    refine ⟨rfl, _, rfl, ?_⟩
    apply wS_if
    repeat' wtm_at "m0"
    refine ⟨⟨rfl, rfl⟩, wR_of (asked_err (k := 0) rfl m.o rfl (wR_ofE (meet_bad m h7 hd) ⟨rfl, rfl, rfl⟩) rfl rfl rfl refusal_lies) ?_⟩
    repeat' wtm_at "m0"
    refine wR_of same_lies ?_
    repeat' wtm_at "m0"
    refine ⟨fun _ => ?_, fun z => absurd z (by decide)⟩
    repeat' wtm_at "m0"
    refine ⟨_, _, _, insOf_at m.o, by decide, rfl, ?_⟩
    repeat' wtm_at "m0"
    refine ⟨⟨rfl, rfl⟩, wR_of (numbers_now_ok m (by omega)) ?_⟩
    repeat' wtm_at "m0"
    refine wR_of (oNe_ints (xs := nowN ns [1, 4]) (ys := nowN ns [1, 4]) rfl rfl) ?_
    repeat' wtm_at "m0"
    rw [decide_eq_true rfl]
    refine ⟨fun _ => ?_, fun z => absurd z (by decide)⟩
    repeat' wtm_at "m0"
    refine ⟨_, _, _, insOf_at m.o, by decide, rfl, ?_⟩
    repeat' wtm_at "m0"
    refine ⟨⟨rfl, rfl⟩, wR_of (rounds_now_ok m) ?_⟩
    repeat' wtm_at "m0"
    refine ⟨fun z => absurd z (by decide), fun _ => ?_⟩
    apply wS_nil
    exact ⟨_, fun x hx => hm x (List.mem_cons_of_mem _ hx), rfl, rfl⟩
  rintro τ h ⟨d8, hm, rfl, rfl⟩
  refine ⟨rfl, ?_⟩
  unfold S_law_7
  repeat' wtm_at "m0"
  refine wR_of (a := .lst hsQ) rfl ?_
  refine wR_of (a := (hsQ, Gd.free)) rfl ?_
  refine forL_inv (fun r τ h => ∃ (d8 : Option Dv), (∀ d ∈ r, d ∈ hsQ) ∧ G = h ∧ τ = [some (.kls (scr.map .int)), some (.obj 1), some (.lst (ns.map .int)), d3, d4, d5, some (.obj i), some (.lst ((nowN ns [1, 4]).map .int)), d8, none]) _ ⟨d8, fun _ z => z, rfl, rfl⟩ ?_ ?_
  · rintro d r τ h ⟨d8, hm, rfl, rfl⟩
    have hd := hm d List.mem_cons_self
    refine ⟨rfl, _, rfl, ?_⟩
    apply wS_if
    repeat' wtm_at "m0"
    refine ⟨⟨rfl, rfl⟩, wR_of (asked_house m.o rfl (number_bad m h7 hd)) ?_⟩
    repeat' wtm_at "m0"
    refine wR_of (a := tD d) rfl ?_
    refine wR_of (same_tD hd) ?_
    repeat' wtm_at "m0"
    refine ⟨fun z => absurd z (by decide), fun _ => ?_⟩
    apply wS_nil
    exact ⟨_, fun x hx => hm x (List.mem_cons_of_mem _ hx), rfl, rfl⟩
  rintro τ h ⟨d8, hm, rfl, rfl⟩
  refine ⟨rfl, ?_⟩
  unfold S_law_8
  repeat' wtm_at "m0"
  apply wE_disp2
  repeat' wtm_at "m0"
  refine wR_of (a := .tup [.int 1, .int 4]) rfl ?_
  repeat' wtm_at "m0"
  refine wR_of (a := .tup [.int 4, .int 0]) rfl ?_
  repeat' wtm_at "m0"
  refine ⟨⟨_, _, rfl, rfl, by decide⟩, ?_⟩
  repeat' wtm_at "m0"
  have wl : LiesOk ns.length [1, 4] [((1, 4), .int 5), ((4, 0), .int 1000000)] := by
    rw [h7]
    refine ⟨fun p hp => ?_, fun p hp => ?_, fun p hp => ?_⟩
    all_goals
      simp only [List.mem_cons, List.not_mem_nil, or_false] at hp
      rcases hp with rfl | rfl
    · decide
    · decide
    · decide
    · decide
    · exact ⟨5, rfl, by decide, by decide⟩
    · exact ⟨1000000, rfl, by decide, by decide⟩
  obtain ⟨h', e8, e9⟩ := meet_ok (f := 3) m (by omega) (by omega) wl
  have m2 := m.met (kvs := [((1, 4), .int 5), ((4, 0), .int 1000000)])
  rw [← e9] at m2
  refine ⟨⟨rfl, rfl⟩, wR_of (asked_ok m.o rfl e8) ?_⟩
  repeat' wtm_at "m0"
  refine wR_of (a := .bl true) (by with_unfolding_all rfl) ?_
  refine ⟨_, rfl, fun _ => ?_, fun z => absurd z (by decide)⟩
  repeat' wtm_at "m0"
  refine ⟨_, _, _, insOf_at m2.o, by decide, rfl, ?_⟩
  repeat' wtm_at "m0"
  refine ⟨⟨rfl, rfl⟩, wR_of (rounds_now_ok m2) ?_⟩
  repeat' wtm_at "m0"
  rfl
end L2.Mi.Lw

namespace L2.Mi.Lw
open PySem PySem.Spec PyProof.Rows
def top (i : Nat) : Stmt := PySem.Challenge.pw_liarclocks_k08_meetings_refused.main.body.getD i (.Pass ⟨0, 0, 0, 0⟩)
structure Tx (K : PySem.W.Frag) (mg : Str → Option Value) (cl : Str → Option Addr) (Z : Nat → Addr) : Prop where
  n_ValueError : mg "ValueError" = none
  n_all : mg "all" = none
  n_bool : mg "bool" = none
  n_dict : mg "dict" = none
  n_int : mg "int" = none
  n_isinstance : mg "isinstance" = none
  n_len : mg "len" = none
  n_list : mg "list" = none
  n_range : mg "range" = none
  n_set : mg "set" = none
  n_sorted : mg "sorted" = none
  n_tuple : mg "tuple" = none
  c_MOST : IntAt mg "MOST" 1000000
  c_MOST_FEW : IntAt mg "MOST_FEW" 5
  c_MOST_HOUSES : IntAt mg "MOST_HOUSES" 16
  e_BadHouses : ExcAt K mg cl "BadHouses"
  e_BadLies : ExcAt K mg cl "BadLies"
  e_BadNumber : ExcAt K mg cl "BadNumber"
  e_BadWorths : ExcAt K mg cl "BadWorths"
  y_BadHouses : ClsAt K mg cl "BadHouses" ["BadHouses"]
  y_BadLies : ClsAt K mg cl "BadLies" ["BadLies"]
  y_BadNumber : ClsAt K mg cl "BadNumber" ["BadNumber"]
  y_BadSaying : ClsAt K mg cl "BadSaying" ["BadSaying"]
  y_BadTable : ClsAt K mg cl "BadTable" ["BadTable"]
  y_BadWorths : ClsAt K mg cl "BadWorths" ["BadWorths"]
  y_LiarError : ClsAt K mg cl "LiarError" ["BadNumber", "BadWorths", "BadLies", "BadHouses", "NoHouse", "NoLetter", "NotNow", "BadTable", "BadSaying", "LiarError"]
  y_NoHouse : ClsAt K mg cl "NoHouse" ["NoHouse"]
  y_NoLetter : ClsAt K mg cl "NoLetter" ["NoLetter"]
  y_NotNow : ClsAt K mg cl "NotNow" ["NotNow"]
  yv_ValueError : ClsT K cl (.type "ValueError") ["BadNumber", "BadWorths", "BadLies", "BadHouses", "NoHouse", "NoLetter", "NotNow", "BadTable", "BadSaying", "LiarError"]
  h_LiarError : HdAt K mg cl "LiarError" ["BadNumber", "BadWorths", "BadLies", "BadHouses", "NoHouse", "NoLetter", "NotNow", "BadTable", "BadSaying", "LiarError"]
  hb_LiarError : HbAt K mg cl "LiarError" ["BadNumber", "BadWorths", "BadLies", "BadHouses", "NoHouse", "NoLetter", "NotNow", "BadTable", "BadSaying", "LiarError"]
  hb_NoHouse : HbAt K mg cl "NoHouse" ["NoHouse"]
  xall : ExcAll K cl
  xf : XfT K cl
  f_count : FldT K cl ["Meeting"] "count"
  f_few : FldT K cl ["Company", "Echo", "Meeting", "Post", "Pulse", "TimedPulse", "Track"] "few"
  f_liars : FldT K cl ["Book", "Company", "Echo", "Meeting", "Post", "Pulse", "TimedPulse"] "liars"
  f_numbers : FldT K cl ["Meeting"] "numbers"
  z_Meeting___init___liars : KT K (Z 0) []
  tt : True
/-! ### _law_town -/
abbrev s__law_town : Stmt := top 26
theorem sc__law_town : FnScope ["_law_script"] ["_law_script"] (defScope s__law_town) := ⟨rfl, rfl, rfl, by decide +kernel, rfl, by decide +kernel, by decide +kernel⟩
abbrev At__law_town (P : Program) (w : World) (K : PySem.W.Frag) (mg : Str → Option Value) (base : Heap) (cl : Str → Option Addr) (Z : Nat → Addr) : Prop := FnAt P w K mg base cl "_law_town" s__law_town [] [] 1 1 ["_law_script"] M__law_town
theorem ok__law_town {P : Program} {w : World} {K : PySem.W.Frag} {mg : Str → Option Value} {base : Heap} {cl : Str → Option Addr} {Z : Nat → Addr} {f : Addr} {fd : FuncData} (F : FunD K "_law_town" "_law_town" (defArgs s__law_town) (defBody s__law_town) (defScope s__law_town) [] [] f fd) (T : Tx K mg cl Z)  : FnOk P w K mg base (L2.CX P w) 1 f fd ["_law_script"] (spM K cl 1 M__law_town) := by
  refine fn_ok F sc__law_town rfl rfl fun cdv A outer s H E hr => ?_
  have S := sc__law_town
  have hu : (A.deeper (envOfC "_law_town" (defScope s__law_town) s.heap.objs.size f cdv)).units + 64 < cLine := hr.units
  have hu5 : (A.deeper (envOfC "_law_town" (defScope s__law_town) s.heap.objs.size f cdv)).units + 65 < cLine := by have z := hr.un; omega
  have hu1 : (A.deeper (envOfC "_law_town" (defScope s__law_town) s.heap.objs.size f cdv)).units + 1 < cLine := by omega
  have hu2 : (A.deeper (envOfC "_law_town" (defScope s__law_town) s.heap.objs.size f cdv)).units + 2 < cLine := by omega
  exact (jss_one (js_ret (je_lstM (ja_cons (je_if (jt_cmp (op2_ne hu) (jv 0) (je_lst ja_nil) (nomark _)) (je_callTy call_listMM rfl T.n_list bt_list (ja_cons (jv 0) ja_nil)) (je_lstM (ja_cons je_int ja_nil))) (ja_cons je_int ja_nil)))))
theorem kb__law_town_1 {K : PySem.W.Frag} : ∀ f fd, FunD K "_law_town" "_law_town" (defArgs s__law_town) (defBody s__law_town) (defScope s__law_town) [] [] f fd → ∃ g, KBn K fd ["_law_script"] 1 [] g (fun vs zs => plc pt__law_town_1 vs [] [] zs) := fun f fd F => kb_plc0 F 1 [] pt__law_town_1 fun _ _ _ _ _ _ us ws h1 h2 => match us, ws, h1, h2 with | [_], [], _, _ => rfl
theorem kr__law_town_1 {K : PySem.W.Frag} {cl : Str → Option Addr} : KRel K cl 1 0 (fun vs zs => plc pt__law_town_1 vs [] [] zs) gD__law_town_1 := krel_plc trivial trivial
theorem kl__law_town_1 : ∀ ds zs, ds.length = 1 → zs.length = 0 → (gD__law_town_1 ds zs).length = 1 := fun ds zs h1 h2 => match ds, zs, h1, h2 with | [_], [], _, _ => rfl
/-! ### _law_draw -/
abbrev s__law_draw : Stmt := top 27
theorem sc__law_draw : FnScope ["_law_town_here", "_law_many", "_law_row", "_law_at", "_law_cell", "_law_mixed"] ["_law_town_here", "_law_many"] (defScope s__law_draw) := ⟨rfl, rfl, rfl, by decide +kernel, rfl, by decide +kernel, by decide +kernel⟩
abbrev At__law_draw (P : Program) (w : World) (K : PySem.W.Frag) (mg : Str → Option Value) (base : Heap) (cl : Str → Option Addr) (Z : Nat → Addr) : Prop := FnAt P w K mg base cl "_law_draw" s__law_draw [] [] 1 2 ["_law_town_here", "_law_many"] M__law_draw
theorem ok__law_draw {P : Program} {w : World} {K : PySem.W.Frag} {mg : Str → Option Value} {base : Heap} {cl : Str → Option Addr} {Z : Nat → Addr} {f : Addr} {fd : FuncData} (F : FunD K "_law_draw" "_law_draw" (defArgs s__law_draw) (defBody s__law_draw) (defScope s__law_draw) [] [] f fd) (T : Tx K mg cl Z)  : FnOk P w K mg base (L2.CX P w) 1 f fd ["_law_town_here", "_law_many"] (spM K cl 2 M__law_draw) := by
  refine fn_ok F sc__law_draw rfl rfl fun cdv A outer s H E hr => ?_
  have S := sc__law_draw
  have hu : (A.deeper (envOfC "_law_draw" (defScope s__law_draw) s.heap.objs.size f cdv)).units + 64 < cLine := hr.units
  have hu5 : (A.deeper (envOfC "_law_draw" (defScope s__law_draw) s.heap.objs.size f cdv)).units + 65 < cLine := by have z := hr.un; omega
  have hu1 : (A.deeper (envOfC "_law_draw" (defScope s__law_draw) s.heap.objs.size f cdv)).units + 1 < cLine := by omega
  have hu2 : (A.deeper (envOfC "_law_draw" (defScope s__law_draw) s.heap.objs.size f cdv)).units + 2 < cLine := by omega
  exact (jss_cons (js_set (i := 2) S.nd rfl (by first | exact Or.inl rfl | exact Or.inr rfl) (je_ix (jv 0) je_int (fun _ _ => rfl)))
    (jss_cons (js_setix (je_op op2_add (je_ix (jv 0) je_int (fun _ _ => rfl)) je_int) (jv 0) je_int)
    (jss_cons (js_set (i := 3) S.nd rfl (by first | exact Or.inl rfl | exact Or.inr rfl) (je_op op2_mod (je_ix (jv 0) je_int (fun _ _ => rfl)) (je_callB call_lenM rfl T.n_len bt_len (ja_cons (jv 2) ja_nil))))
    (jss_cons (js_set (i := 4) S.nd rfl (by first | exact Or.inl rfl | exact Or.inr rfl) (je_ix (jv 2) (jv 3) (fun _ _ => rfl)))
    (jss_cons (js_if (jt_cmp op2_ge (jv 4) je_int (nomark _)) (jss_cons (js_setix (je_op op2_div (jv 4) (jv 1)) (jv 2) (jv 3))
    (jss_one (js_ret (je_op op2_mod (jv 4) (jv 1))))) jss_nil)
    (jss_cons (js_set (i := 5) S.nd rfl (by first | exact Or.inl rfl | exact Or.inr rfl) (je_op op2_mod (je_op op2_add (jv 4) (je_op op2_mul je_int (je_ix (jv 0) je_int (fun _ _ => rfl)))) je_int))
    (jss_cons (js_set (i := 5) S.nd rfl (by first | exact Or.inl rfl | exact Or.inr rfl) (je_op op2_mod (je_op op2_pow (jv 5) je_int) je_int))
    (jss_one (js_ret (je_op op2_mod (je_op op2_div (je_op op2_mod (je_op op2_add (je_op op2_mul (je_op op2_div (jv 5) je_int) je_int) (jv 5)) je_int) je_int) (jv 1)))))))))))
theorem kb__law_draw_2 {K : PySem.W.Frag} : ∀ f fd, FunD K "_law_draw" "_law_draw" (defArgs s__law_draw) (defBody s__law_draw) (defScope s__law_draw) [] [] f fd → ∃ g, KBn K fd ["_law_town_here", "_law_many"] 2 [] g (fun vs zs => plc pt__law_draw_2 vs [] [] zs) := fun f fd F => kb_plc0 F 2 [] pt__law_draw_2 fun _ _ _ _ _ _ us ws h1 h2 => match us, ws, h1, h2 with | [_, _], [], _, _ => rfl
theorem kr__law_draw_2 {K : PySem.W.Frag} {cl : Str → Option Addr} : KRel K cl 2 0 (fun vs zs => plc pt__law_draw_2 vs [] [] zs) gD__law_draw_2 := krel_plc trivial trivial
theorem kl__law_draw_2 : ∀ ds zs, ds.length = 2 → zs.length = 0 → (gD__law_draw_2 ds zs).length = 2 := fun ds zs h1 h2 => match ds, zs, h1, h2 with | [_, _], [], _, _ => rfl
/-! ### _law_pick -/
abbrev s__law_pick : Stmt := top 28
theorem sc__law_pick : FnScope ["_law_town_here", "_law_some"] ["_law_town_here", "_law_some"] (defScope s__law_pick) := ⟨rfl, rfl, rfl, by decide +kernel, rfl, by decide +kernel, by decide +kernel⟩
abbrev At__law_pick (P : Program) (w : World) (K : PySem.W.Frag) (mg : Str → Option Value) (base : Heap) (cl : Str → Option Addr) (Z : Nat → Addr) : Prop := FnAt P w K mg base cl "_law_pick" s__law_pick [] [] 2 2 ["_law_town_here", "_law_some"] M__law_pick
theorem ok__law_pick {P : Program} {w : World} {K : PySem.W.Frag} {mg : Str → Option Value} {base : Heap} {cl : Str → Option Addr} {Z : Nat → Addr} {f : Addr} {fd : FuncData} (F : FunD K "_law_pick" "_law_pick" (defArgs s__law_pick) (defBody s__law_pick) (defScope s__law_pick) [] [] f fd) (T : Tx K mg cl Z) (G__law_draw : At__law_draw P w K mg base cl Z) : FnOk P w K mg base (L2.CX P w) 2 f fd ["_law_town_here", "_law_some"] (spM K cl 2 M__law_pick) := by
  refine fn_ok F sc__law_pick rfl rfl fun cdv A outer s H E hr => ?_
  have S := sc__law_pick
  have hu : (A.deeper (envOfC "_law_pick" (defScope s__law_pick) s.heap.objs.size f cdv)).units + 64 < cLine := hr.units
  have hu5 : (A.deeper (envOfC "_law_pick" (defScope s__law_pick) s.heap.objs.size f cdv)).units + 65 < cLine := by have z := hr.un; omega
  have hu1 : (A.deeper (envOfC "_law_pick" (defScope s__law_pick) s.heap.objs.size f cdv)).units + 1 < cLine := by omega
  have hu2 : (A.deeper (envOfC "_law_pick" (defScope s__law_pick) s.heap.objs.size f cdv)).units + 2 < cLine := by omega
  exact (jss_one (js_ret (je_ix (jv 1) (je_fn G__law_draw kb__law_draw_2 kr__law_draw_2 kl__law_draw_2 (hr.mono (by decide)) rfl (takes_of rfl rfl rfl rfl) (ja_cons (jv 0) (ja_cons (je_callB call_lenM rfl T.n_len bt_len (ja_cons (jv 1) ja_nil)) ja_nil)) jk_nil) (fun _ _ => rfl))))
theorem kb__law_pick_2 {K : PySem.W.Frag} : ∀ f fd, FunD K "_law_pick" "_law_pick" (defArgs s__law_pick) (defBody s__law_pick) (defScope s__law_pick) [] [] f fd → ∃ g, KBn K fd ["_law_town_here", "_law_some"] 2 [] g (fun vs zs => plc pt__law_pick_2 vs [] [] zs) := fun f fd F => kb_plc0 F 2 [] pt__law_pick_2 fun _ _ _ _ _ _ us ws h1 h2 => match us, ws, h1, h2 with | [_, _], [], _, _ => rfl
theorem kr__law_pick_2 {K : PySem.W.Frag} {cl : Str → Option Addr} : KRel K cl 2 0 (fun vs zs => plc pt__law_pick_2 vs [] [] zs) gD__law_pick_2 := krel_plc trivial trivial
theorem kl__law_pick_2 : ∀ ds zs, ds.length = 2 → zs.length = 0 → (gD__law_pick_2 ds zs).length = 2 := fun ds zs h1 h2 => match ds, zs, h1, h2 with | [_, _], [], _, _ => rfl
/-! ### _law_number -/
abbrev s__law_number : Stmt := top 30
theorem sc__law_number : FnScope ["_law_town_here", "_law_most", "_law_found"] ["_law_town_here"] (defScope s__law_number) := ⟨rfl, rfl, rfl, by decide +kernel, rfl, by decide +kernel, by decide +kernel⟩
abbrev At__law_number (P : Program) (w : World) (K : PySem.W.Frag) (mg : Str → Option Value) (base : Heap) (cl : Str → Option Addr) (Z : Nat → Addr) : Prop := FnAt P w K mg base cl "_law_number" s__law_number [] [] 3 1 ["_law_town_here"] M__law_number
theorem ok__law_number {P : Program} {w : World} {K : PySem.W.Frag} {mg : Str → Option Value} {base : Heap} {cl : Str → Option Addr} {Z : Nat → Addr} {f : Addr} {fd : FuncData} (F : FunD K "_law_number" "_law_number" (defArgs s__law_number) (defBody s__law_number) (defScope s__law_number) [] [] f fd) (T : Tx K mg cl Z) (G__law_pick : At__law_pick P w K mg base cl Z) (G__law_draw : At__law_draw P w K mg base cl Z) : FnOk P w K mg base (L2.CX P w) 3 f fd ["_law_town_here"] (spM K cl 1 M__law_number) := by
  refine fn_ok F sc__law_number rfl rfl fun cdv A outer s H E hr => ?_
  have S := sc__law_number
  have hu : (A.deeper (envOfC "_law_number" (defScope s__law_number) s.heap.objs.size f cdv)).units + 64 < cLine := hr.units
  have hu5 : (A.deeper (envOfC "_law_number" (defScope s__law_number) s.heap.objs.size f cdv)).units + 65 < cLine := by have z := hr.un; omega
  have hu1 : (A.deeper (envOfC "_law_number" (defScope s__law_number) s.heap.objs.size f cdv)).units + 1 < cLine := by omega
  have hu2 : (A.deeper (envOfC "_law_number" (defScope s__law_number) s.heap.objs.size f cdv)).units + 2 < cLine := by omega
  exact (jss_cons (js_set (i := 1) S.nd rfl (by first | exact Or.inl rfl | exact Or.inr rfl) (je_fn G__law_pick kb__law_pick_2 kr__law_pick_2 kl__law_pick_2 (hr.mono (by decide)) rfl (takes_of rfl rfl rfl rfl) (ja_cons (jv 0) (ja_cons (je_lst (ja_cons je_int (ja_cons je_int (ja_cons je_int (ja_cons je_int ja_nil))))) ja_nil)) jk_nil))
    (jss_cons (js_set (i := 2) S.nd rfl (by first | exact Or.inl rfl | exact Or.inr rfl) (je_fn G__law_draw kb__law_draw_2 kr__law_draw_2 kl__law_draw_2 (hr.mono (by decide)) rfl (takes_of rfl rfl rfl rfl) (ja_cons (jv 0) (ja_cons (jv 1) ja_nil)) jk_nil))
    (jss_one (js_ret (je_if (jt_cmp (op2_eq hu) (je_fn G__law_draw kb__law_draw_2 kr__law_draw_2 kl__law_draw_2 (hr.mono (by decide)) rfl (takes_of rfl rfl rfl rfl) (ja_cons (jv 0) (ja_cons je_int ja_nil)) jk_nil) je_int (nomark _)) (jv 2) (je_op op2_sub je_int (jv 2)))))))
theorem kb__law_number_1 {K : PySem.W.Frag} : ∀ f fd, FunD K "_law_number" "_law_number" (defArgs s__law_number) (defBody s__law_number) (defScope s__law_number) [] [] f fd → ∃ g, KBn K fd ["_law_town_here"] 1 [] g (fun vs zs => plc pt__law_number_1 vs [] [] zs) := fun f fd F => kb_plc0 F 1 [] pt__law_number_1 fun _ _ _ _ _ _ us ws h1 h2 => match us, ws, h1, h2 with | [_], [], _, _ => rfl
theorem kr__law_number_1 {K : PySem.W.Frag} {cl : Str → Option Addr} : KRel K cl 1 0 (fun vs zs => plc pt__law_number_1 vs [] [] zs) gD__law_number_1 := krel_plc trivial trivial
theorem kl__law_number_1 : ∀ ds zs, ds.length = 1 → zs.length = 0 → (gD__law_number_1 ds zs).length = 1 := fun ds zs h1 h2 => match ds, zs, h1, h2 with | [_], [], _, _ => rfl
/-! ### is_whole -/
abbrev s_is_whole : Stmt := top 13
theorem sc_is_whole : FnScope ["thing", "low", "high"] ["thing", "low", "high"] (defScope s_is_whole) := ⟨rfl, rfl, rfl, by decide +kernel, rfl, by decide +kernel, by decide +kernel⟩
abbrev At_is_whole (P : Program) (w : World) (K : PySem.W.Frag) (mg : Str → Option Value) (base : Heap) (cl : Str → Option Addr) (Z : Nat → Addr) : Prop := FnAt P w K mg base cl "is_whole" s_is_whole [] [] 1 3 ["thing", "low", "high"] M_is_whole
theorem ok_is_whole {P : Program} {w : World} {K : PySem.W.Frag} {mg : Str → Option Value} {base : Heap} {cl : Str → Option Addr} {Z : Nat → Addr} {f : Addr} {fd : FuncData} (F : FunD K "is_whole" "is_whole" (defArgs s_is_whole) (defBody s_is_whole) (defScope s_is_whole) [] [] f fd) (T : Tx K mg cl Z)  : FnOk P w K mg base (L2.CX P w) 1 f fd ["thing", "low", "high"] (spM K cl 3 M_is_whole) := by
  refine fn_ok F sc_is_whole rfl rfl fun cdv A outer s H E hr => ?_
  have S := sc_is_whole
  have hu : (A.deeper (envOfC "is_whole" (defScope s_is_whole) s.heap.objs.size f cdv)).units + 64 < cLine := hr.units
  have hu5 : (A.deeper (envOfC "is_whole" (defScope s_is_whole) s.heap.objs.size f cdv)).units + 65 < cLine := by have z := hr.un; omega
  have hu1 : (A.deeper (envOfC "is_whole" (defScope s_is_whole) s.heap.objs.size f cdv)).units + 1 < cLine := by omega
  have hu2 : (A.deeper (envOfC "is_whole" (defScope s_is_whole) s.heap.objs.size f cdv)).units + 2 < cLine := by omega
  exact (jss_one (js_ret (je_and (je_isT (T := "int") rfl rfl T.n_isinstance rfl T.n_int bt_int (jv 0)) (je_and (je_not (je_isT (T := "bool") rfl rfl T.n_isinstance rfl T.n_bool bt_bool (jv 0))) (je_one (je_chain op2_le op2_le (jv 1) (jv 0) (jv 2)))))))
theorem kb_is_whole_3 {K : PySem.W.Frag} : ∀ f fd, FunD K "is_whole" "is_whole" (defArgs s_is_whole) (defBody s_is_whole) (defScope s_is_whole) [] [] f fd → ∃ g, KBn K fd ["thing", "low", "high"] 3 [] g (fun vs zs => plc pt_is_whole_3 vs [] [] zs) := fun f fd F => kb_plc0 F 3 [] pt_is_whole_3 fun _ _ _ _ _ _ us ws h1 h2 => match us, ws, h1, h2 with | [_, _, _], [], _, _ => rfl
theorem kr_is_whole_3 {K : PySem.W.Frag} {cl : Str → Option Addr} : KRel K cl 3 0 (fun vs zs => plc pt_is_whole_3 vs [] [] zs) gD_is_whole_3 := krel_plc trivial trivial
theorem kl_is_whole_3 : ∀ ds zs, ds.length = 3 → zs.length = 0 → (gD_is_whole_3 ds zs).length = 3 := fun ds zs h1 h2 => match ds, zs, h1, h2 with | [_, _, _], [], _, _ => rfl
/-! ### look_worths -/
abbrev s_look_worths : Stmt := top 15
theorem sc_look_worths : FnScope ["thing", "least", "fine", "one"] ["thing", "least"] (defScope s_look_worths) := ⟨rfl, rfl, rfl, by decide +kernel, rfl, by decide +kernel, by decide +kernel⟩
abbrev At_look_worths (P : Program) (w : World) (K : PySem.W.Frag) (mg : Str → Option Value) (base : Heap) (cl : Str → Option Addr) (Z : Nat → Addr) : Prop := FnAt P w K mg base cl "look_worths" s_look_worths [] [("least", .int 1)] 2 2 ["thing", "least"] M_look_worths
theorem ok_look_worths {P : Program} {w : World} {K : PySem.W.Frag} {mg : Str → Option Value} {base : Heap} {cl : Str → Option Addr} {Z : Nat → Addr} {f : Addr} {fd : FuncData} (F : FunD K "look_worths" "look_worths" (defArgs s_look_worths) (defBody s_look_worths) (defScope s_look_worths) [] [("least", .int 1)] f fd) (T : Tx K mg cl Z) (G_is_whole : At_is_whole P w K mg base cl Z) : FnOk P w K mg base (L2.CX P w) 2 f fd ["thing", "least"] (spM K cl 2 M_look_worths) := by
  refine fn_ok F sc_look_worths rfl rfl fun cdv A outer s H E hr => ?_
  have S := sc_look_worths
  have hu : (A.deeper (envOfC "look_worths" (defScope s_look_worths) s.heap.objs.size f cdv)).units + 64 < cLine := hr.units
  have hu5 : (A.deeper (envOfC "look_worths" (defScope s_look_worths) s.heap.objs.size f cdv)).units + 65 < cLine := by have z := hr.un; omega
  have hu1 : (A.deeper (envOfC "look_worths" (defScope s_look_worths) s.heap.objs.size f cdv)).units + 1 < cLine := by omega
  have hu2 : (A.deeper (envOfC "look_worths" (defScope s_look_worths) s.heap.objs.size f cdv)).units + 2 < cLine := by omega
  exact (jss_cons (js_set (i := 2) S.nd rfl (by first | exact Or.inl rfl | exact Or.inr rfl) (je_and (je_isT (T := "list") rfl rfl T.n_isinstance rfl T.n_list bt_list (jv 0)) (je_one (je_chain op2_le op2_le (jv 1) (je_callB call_lenM rfl T.n_len bt_len (ja_cons (jv 0) ja_nil)) je_int))))
    (jss_one (js_if (PW.pt (jw_or (jt_not (jt_val (jv 2))) (jw_or1 (jt_not (jt_val (je_callB (call_allM rfl) rfl T.n_all bt_all (ja_cons (je_lc (own := [("one", 3)]) rfl S.nd (ji_val (jv 0)) (blkOk_by (own := [("one", 3)]) (N := ["thing", "least", "fine", "one"]) (sc := defScope s_look_worths) (by decide +kernel)) (by decide) (fun _ _ _ _ _ => (jg_name S.nd rfl (by first | exact Or.inl rfl | exact Or.inr rfl))) (fun _ _ _ _ _ => jts_nil) (fun _ _ _ _ _ => (je_fn G_is_whole kb_is_whole_3 kr_is_whole_3 kl_is_whole_3 (hr.mono (by decide)) rfl takes0 (ja_cons (jv 3) (ja_cons (je_neg (je_intc T.c_MOST rfl)) (ja_cons (je_intc T.c_MOST rfl) ja_nil))) jk_nil))) ja_nil))))))) (jss_one (js_raiseX T.e_BadWorths rfl (takes_of rfl rfl rfl rfl) rfl)) jss_nil)))
theorem kb_look_worths_1 {K : PySem.W.Frag} : ∀ f fd, FunD K "look_worths" "look_worths" (defArgs s_look_worths) (defBody s_look_worths) (defScope s_look_worths) [] [("least", .int 1)] f fd → ∃ g, KBn K fd ["thing", "least"] 1 [] g (fun vs zs => plc pt_look_worths_1 vs [] [.int 1] zs) := fun f fd F => kb_plcM F 1 [] [("least", .int 1)] pt_look_worths_1 (by intro z; cases z) (by simp) fun _ _ _ _ _ _ us mv ws h1 h2 h3 => match us, mv, ws, h1, h2, h3 with | [_], [_], [], _, _, _ => ⟨_, _, _, _, _, _, rfl, rfl, rfl⟩
theorem kr_look_worths_1 {K : PySem.W.Frag} {cl : Str → Option Addr} : KRel K cl 1 0 (fun vs zs => plc pt_look_worths_1 vs [] [.int 1] zs) gD_look_worths_1 := krel_plc trivial ⟨rfl, trivial⟩
theorem kl_look_worths_1 : ∀ ds zs, ds.length = 1 → zs.length = 0 → (gD_look_worths_1 ds zs).length = 2 := fun ds zs h1 h2 => match ds, zs, h1, h2 with | [_], [], _, _ => rfl
/-! ### look_number -/
abbrev s_look_number : Stmt := top 14
theorem sc_look_number : FnScope ["thing", "low", "high"] ["thing", "low", "high"] (defScope s_look_number) := ⟨rfl, rfl, rfl, by decide +kernel, rfl, by decide +kernel, by decide +kernel⟩
abbrev At_look_number (P : Program) (w : World) (K : PySem.W.Frag) (mg : Str → Option Value) (base : Heap) (cl : Str → Option Addr) (Z : Nat → Addr) : Prop := FnAt P w K mg base cl "look_number" s_look_number [] [] 2 3 ["thing", "low", "high"] M_look_number
theorem ok_look_number {P : Program} {w : World} {K : PySem.W.Frag} {mg : Str → Option Value} {base : Heap} {cl : Str → Option Addr} {Z : Nat → Addr} {f : Addr} {fd : FuncData} (F : FunD K "look_number" "look_number" (defArgs s_look_number) (defBody s_look_number) (defScope s_look_number) [] [] f fd) (T : Tx K mg cl Z) (G_is_whole : At_is_whole P w K mg base cl Z) : FnOk P w K mg base (L2.CX P w) 2 f fd ["thing", "low", "high"] (spM K cl 3 M_look_number) := by
  refine fn_ok F sc_look_number rfl rfl fun cdv A outer s H E hr => ?_
  have S := sc_look_number
  have hu : (A.deeper (envOfC "look_number" (defScope s_look_number) s.heap.objs.size f cdv)).units + 64 < cLine := hr.units
  have hu5 : (A.deeper (envOfC "look_number" (defScope s_look_number) s.heap.objs.size f cdv)).units + 65 < cLine := by have z := hr.un; omega
  have hu1 : (A.deeper (envOfC "look_number" (defScope s_look_number) s.heap.objs.size f cdv)).units + 1 < cLine := by omega
  have hu2 : (A.deeper (envOfC "look_number" (defScope s_look_number) s.heap.objs.size f cdv)).units + 2 < cLine := by omega
  exact (jss_one (js_if (jt_not (jt_val (je_fn G_is_whole kb_is_whole_3 kr_is_whole_3 kl_is_whole_3 (hr.mono (by decide)) rfl (takes_of rfl rfl rfl rfl) (ja_cons (jv 0) (ja_cons (jv 1) (ja_cons (jv 2) ja_nil))) jk_nil))) (jss_one (js_raiseX T.e_BadNumber rfl (takes_of rfl rfl rfl rfl) rfl)) jss_nil))
theorem kb_look_number_3 {K : PySem.W.Frag} : ∀ f fd, FunD K "look_number" "look_number" (defArgs s_look_number) (defBody s_look_number) (defScope s_look_number) [] [] f fd → ∃ g, KBn K fd ["thing", "low", "high"] 3 [] g (fun vs zs => plc pt_look_number_3 vs [] [] zs) := fun f fd F => kb_plc0 F 3 [] pt_look_number_3 fun _ _ _ _ _ _ us ws h1 h2 => match us, ws, h1, h2 with | [_, _, _], [], _, _ => rfl
theorem kr_look_number_3 {K : PySem.W.Frag} {cl : Str → Option Addr} : KRel K cl 3 0 (fun vs zs => plc pt_look_number_3 vs [] [] zs) gD_look_number_3 := krel_plc trivial trivial
theorem kl_look_number_3 : ∀ ds zs, ds.length = 3 → zs.length = 0 → (gD_look_number_3 ds zs).length = 3 := fun ds zs h1 h2 => match ds, zs, h1, h2 with | [_, _, _], [], _, _ => rfl
/-! ### look_liars -/
abbrev s_look_liars : Stmt := top 16
theorem sc_look_liars : FnScope ["liars", "houses", "few", "fine", "one"] ["liars", "houses", "few"] (defScope s_look_liars) := ⟨rfl, rfl, rfl, by decide +kernel, rfl, by decide +kernel, by decide +kernel⟩
abbrev At_look_liars (P : Program) (w : World) (K : PySem.W.Frag) (mg : Str → Option Value) (base : Heap) (cl : Str → Option Addr) (Z : Nat → Addr) : Prop := FnAt P w K mg base cl "look_liars" s_look_liars [] [] 2 3 ["liars", "houses", "few"] M_look_liars
theorem ok_look_liars {P : Program} {w : World} {K : PySem.W.Frag} {mg : Str → Option Value} {base : Heap} {cl : Str → Option Addr} {Z : Nat → Addr} {f : Addr} {fd : FuncData} (F : FunD K "look_liars" "look_liars" (defArgs s_look_liars) (defBody s_look_liars) (defScope s_look_liars) [] [] f fd) (T : Tx K mg cl Z) (G_is_whole : At_is_whole P w K mg base cl Z) : FnOk P w K mg base (L2.CX P w) 2 f fd ["liars", "houses", "few"] (spM K cl 3 M_look_liars) := by
  refine fn_ok F sc_look_liars rfl rfl fun cdv A outer s H E hr => ?_
  have S := sc_look_liars
  have hu : (A.deeper (envOfC "look_liars" (defScope s_look_liars) s.heap.objs.size f cdv)).units + 64 < cLine := hr.units
  have hu5 : (A.deeper (envOfC "look_liars" (defScope s_look_liars) s.heap.objs.size f cdv)).units + 65 < cLine := by have z := hr.un; omega
  have hu1 : (A.deeper (envOfC "look_liars" (defScope s_look_liars) s.heap.objs.size f cdv)).units + 1 < cLine := by omega
  have hu2 : (A.deeper (envOfC "look_liars" (defScope s_look_liars) s.heap.objs.size f cdv)).units + 2 < cLine := by omega
  exact (jss_cons (js_set (i := 3) S.nd rfl (by first | exact Or.inl rfl | exact Or.inr rfl) (je_and (je_isT2 (T1 := "list") (T2 := "tuple") rfl rfl rfl T.n_isinstance rfl T.n_list bt_list rfl T.n_tuple bt_tuple (jv 0)) (je_one (je_cmp op2_le (je_callB call_lenM rfl T.n_len bt_len (ja_cons (jv 0) ja_nil)) (jv 2) (nomark _)))))
    (jss_one (js_if (PW.pt (jw_or (jt_not (jt_val (jv 3))) (jw_or (jt_not (jt_val (je_callB (call_allM rfl) rfl T.n_all bt_all (ja_cons (je_lc (own := [("one", 4)]) rfl S.nd (ji_val (jv 0)) (blkOk_by (own := [("one", 4)]) (N := ["liars", "houses", "few", "fine", "one"]) (sc := defScope s_look_liars) (by decide +kernel)) (by decide) (fun _ _ _ _ _ => (jg_name S.nd rfl (by first | exact Or.inl rfl | exact Or.inr rfl))) (fun _ _ _ _ _ => jts_nil) (fun _ _ _ _ _ => (je_fn G_is_whole kb_is_whole_3 kr_is_whole_3 kl_is_whole_3 (hr.mono (by decide)) rfl takes0 (ja_cons (jv 4) (ja_cons je_int (ja_cons (je_op op2_sub (jv 1) je_int) ja_nil))) jk_nil))) ja_nil)))) (jw_or1 (jt_cmp (op2_ne hu) (je_sortSet rfl rfl T.n_sorted rfl T.n_set (jv 0)) (je_callTy call_listM rfl T.n_list bt_list (ja_cons (jv 0) ja_nil)) (nomark _)))))) (jss_one (js_raiseX T.e_BadHouses rfl (takes_of rfl rfl rfl rfl) rfl)) jss_nil)))
theorem kb_look_liars_3 {K : PySem.W.Frag} : ∀ f fd, FunD K "look_liars" "look_liars" (defArgs s_look_liars) (defBody s_look_liars) (defScope s_look_liars) [] [] f fd → ∃ g, KBn K fd ["liars", "houses", "few"] 3 [] g (fun vs zs => plc pt_look_liars_3 vs [] [] zs) := fun f fd F => kb_plc0 F 3 [] pt_look_liars_3 fun _ _ _ _ _ _ us ws h1 h2 => match us, ws, h1, h2 with | [_, _, _], [], _, _ => rfl
theorem kr_look_liars_3 {K : PySem.W.Frag} {cl : Str → Option Addr} : KRel K cl 3 0 (fun vs zs => plc pt_look_liars_3 vs [] [] zs) gD_look_liars_3 := krel_plc trivial trivial
theorem kl_look_liars_3 : ∀ ds zs, ds.length = 3 → zs.length = 0 → (gD_look_liars_3 ds zs).length = 3 := fun ds zs h1 h2 => match ds, zs, h1, h2 with | [_, _, _], [], _, _ => rfl
/-! ### Meeting___init__ -/
abbrev s_Meeting___init__ : Stmt := inClass (top 24) 0
theorem sc_Meeting___init__ : FnScope ["self", "worths", "few", "liars"] ["self", "worths", "few", "liars"] (defScope s_Meeting___init__) := ⟨rfl, rfl, rfl, by decide +kernel, rfl, by decide +kernel, by decide +kernel⟩
abbrev At_Meeting___init__ (P : Program) (w : World) (K : PySem.W.Frag) (mg : Str → Option Value) (base : Heap) (cl : Str → Option Addr) (Z : Nat → Addr) : Prop := MkAt P w K mg base cl "Meeting" "Meeting.__init__" s_Meeting___init__ [] [("liars", .ref (Z 0))] 3 4 ["self", "worths", "few", "liars"] M_Meeting___init__
theorem ok_Meeting___init__ {P : Program} {w : World} {K : PySem.W.Frag} {mg : Str → Option Value} {base : Heap} {cl : Str → Option Addr} {Z : Nat → Addr} {f : Addr} {fd : FuncData} (F : FunD K "__init__" "Meeting.__init__" (defArgs s_Meeting___init__) (defBody s_Meeting___init__) (defScope s_Meeting___init__) [] [("liars", .ref (Z 0))] f fd) (T : Tx K mg cl Z) (G_look_worths : At_look_worths P w K mg base cl Z) (G_look_number : At_look_number P w K mg base cl Z) (G_look_liars : At_look_liars P w K mg base cl Z) : FnOk P w K mg base (L2.CX P w) 3 f fd ["self", "worths", "few", "liars"] (spM K cl 4 M_Meeting___init__) := by
  refine fn_ok F sc_Meeting___init__ rfl rfl fun cdv A outer s H E hr => ?_
  have S := sc_Meeting___init__
  have hu : (A.deeper (envOfC "Meeting.__init__" (defScope s_Meeting___init__) s.heap.objs.size f cdv)).units + 64 < cLine := hr.units
  have hu5 : (A.deeper (envOfC "Meeting.__init__" (defScope s_Meeting___init__) s.heap.objs.size f cdv)).units + 65 < cLine := by have z := hr.un; omega
  have hu1 : (A.deeper (envOfC "Meeting.__init__" (defScope s_Meeting___init__) s.heap.objs.size f cdv)).units + 1 < cLine := by omega
  have hu2 : (A.deeper (envOfC "Meeting.__init__" (defScope s_Meeting___init__) s.heap.objs.size f cdv)).units + 2 < cLine := by omega
  exact (jss_cons (js_expr (je_fn G_look_worths kb_look_worths_1 kr_look_worths_1 kl_look_worths_1 (hr.mono (by decide)) rfl (takes_of rfl rfl rfl rfl) (ja_cons (jv 1) ja_nil) jk_nil))
    (jss_cons (js_expr (je_fn G_look_number kb_look_number_3 kr_look_number_3 kl_look_number_3 (hr.mono (by decide)) rfl (takes_of rfl rfl rfl rfl) (ja_cons (jv 2) (ja_cons je_int (ja_cons (je_intc T.c_MOST_FEW rfl) ja_nil))) jk_nil))
    (jss_cons (js_if (PW.pt (jw_or (jt_cmp op2_gt (je_callB call_lenM rfl T.n_len bt_len (ja_cons (jv 1) ja_nil)) (je_intc T.c_MOST_HOUSES rfl) (nomark _)) (jw_or1 (jt_cmp op2_le (je_callB call_lenM rfl T.n_len bt_len (ja_cons (jv 1) ja_nil)) (je_op op2_mul je_int (jv 2)) (nomark _))))) (jss_one (js_raiseX T.e_BadHouses rfl (takes_of rfl rfl rfl rfl) rfl)) jss_nil)
    (jss_cons (js_expr (je_fn G_look_liars kb_look_liars_3 kr_look_liars_3 kl_look_liars_3 (hr.mono (by decide)) rfl (takes_of rfl rfl rfl rfl) (ja_cons (jv 3) (ja_cons (je_callB call_lenM rfl T.n_len bt_len (ja_cons (jv 1) ja_nil)) (ja_cons (jv 2) ja_nil))) jk_nil))
    (jss_cons (js_fld T.f_numbers (je_callTy call_listMM rfl T.n_list bt_list (ja_cons (jv 1) ja_nil)) (jv 0))
    (jss_cons (js_fld T.f_few (jv 2) (jv 0))
    (jss_cons (js_fld T.f_liars (je_callTy call_listM rfl T.n_list bt_list (ja_cons (jv 3) ja_nil)) (jv 0))
    (jss_one (js_fld T.f_count je_int (jv 0))))))))))
theorem kb_Meeting___init___2_few_liars {K : PySem.W.Frag} {Z : Nat → Addr} : ∀ f fd, FunD K "__init__" "Meeting.__init__" (defArgs s_Meeting___init__) (defBody s_Meeting___init__) (defScope s_Meeting___init__) [] [("liars", .ref (Z 0))] f fd → ∃ g, KBn K fd ["self", "worths", "few", "liars"] 2 ["few", "liars"] g (fun vs zs => plc pt_Meeting___init___2_few_liars vs [] [] zs) := fun f fd F => kb_plc0 F 2 ["few", "liars"] pt_Meeting___init___2_few_liars fun _ _ _ _ _ _ us ws h1 h2 => match us, ws, h1, h2 with | [_, _], [_, _], _, _ => rfl
theorem kr_Meeting___init___2_few_liars {K : PySem.W.Frag} {cl : Str → Option Addr} : KRel K cl 2 2 (fun vs zs => plc pt_Meeting___init___2_few_liars vs [] [] zs) gD_Meeting___init___2_few_liars := krel_plc trivial trivial
theorem kl_Meeting___init___2_few_liars : ∀ ds zs, ds.length = 2 → zs.length = 2 → (gD_Meeting___init___2_few_liars ds zs).length = 4 := fun ds zs h1 h2 => match ds, zs, h1, h2 with | [_, _], [_, _], _, _ => rfl
/-! ### _law_refusal -/
abbrev s__law_refusal : Stmt := top 29
theorem sc__law_refusal : FnScope ["_law_caught", "_law_kinds", "_law_words"] ["_law_caught"] (defScope s__law_refusal) := ⟨rfl, rfl, rfl, by decide +kernel, rfl, by decide +kernel, by decide +kernel⟩
abbrev At__law_refusal (P : Program) (w : World) (K : PySem.W.Frag) (mg : Str → Option Value) (base : Heap) (cl : Str → Option Addr) (Z : Nat → Addr) : Prop := FnAt P w K mg base cl "_law_refusal" s__law_refusal [] [] 1 1 ["_law_caught"] M__law_refusal
theorem ok__law_refusal {P : Program} {w : World} {K : PySem.W.Frag} {mg : Str → Option Value} {base : Heap} {cl : Str → Option Addr} {Z : Nat → Addr} {f : Addr} {fd : FuncData} (F : FunD K "_law_refusal" "_law_refusal" (defArgs s__law_refusal) (defBody s__law_refusal) (defScope s__law_refusal) [] [] f fd) (T : Tx K mg cl Z)  : FnOk P w K mg base (L2.CX P w) 1 f fd ["_law_caught"] (spM K cl 1 M__law_refusal) := by
  refine fn_ok F sc__law_refusal rfl rfl fun cdv A outer s H E hr => ?_
  have S := sc__law_refusal
  have hu : (A.deeper (envOfC "_law_refusal" (defScope s__law_refusal) s.heap.objs.size f cdv)).units + 64 < cLine := hr.units
  have hu5 : (A.deeper (envOfC "_law_refusal" (defScope s__law_refusal) s.heap.objs.size f cdv)).units + 65 < cLine := by have z := hr.un; omega
  have hu1 : (A.deeper (envOfC "_law_refusal" (defScope s__law_refusal) s.heap.objs.size f cdv)).units + 1 < cLine := by omega
  have hu2 : (A.deeper (envOfC "_law_refusal" (defScope s__law_refusal) s.heap.objs.size f cdv)).units + 2 < cLine := by omega
  exact (jss_cons (js_set (i := 1) S.nd rfl (by first | exact Or.inl rfl | exact Or.inr rfl) (je_lst (ja_cons (je_isEx T.y_BadNumber T.xall rfl T.n_isinstance rfl (jv 0)) (ja_cons (je_isEx T.y_BadWorths T.xall rfl T.n_isinstance rfl (jv 0)) (ja_cons (je_isEx T.y_BadLies T.xall rfl T.n_isinstance rfl (jv 0)) ja_nil)))))
    (jss_cons (js_set (i := 1) S.nd rfl (by first | exact Or.inl rfl | exact Or.inr rfl) (je_op op2_add (jv 1) (je_lst (ja_cons (je_isEx T.y_BadHouses T.xall rfl T.n_isinstance rfl (jv 0)) (ja_cons (je_isEx T.y_NoHouse T.xall rfl T.n_isinstance rfl (jv 0)) (ja_cons (je_isEx T.y_NoLetter T.xall rfl T.n_isinstance rfl (jv 0)) ja_nil))))))
    (jss_cons (js_set (i := 1) S.nd rfl (by first | exact Or.inl rfl | exact Or.inr rfl) (je_op op2_add (jv 1) (je_lst (ja_cons (je_isEx T.y_NotNow T.xall rfl T.n_isinstance rfl (jv 0)) (ja_cons (je_isEx T.y_BadTable T.xall rfl T.n_isinstance rfl (jv 0)) (ja_cons (je_isEx T.y_BadSaying T.xall rfl T.n_isinstance rfl (jv 0)) ja_nil))))))
    (jss_cons (js_if (PW.pt (jw_or (jt_cmp (op2_ne hu) (je_mthR PySem.F.plainAttrs_list PySem.F.slot_list_count PySem.F.type_list_count mthr_count (jv 1) (ja_cons je_bl ja_nil)) je_int (nomark _)) (jw_or (jt_not (jt_val (je_isEx T.y_LiarError T.xall rfl T.n_isinstance rfl (jv 0)))) (jw_or1 (jt_not (jt_val (je_isEb T.yv_ValueError T.xall rfl T.n_isinstance rfl T.n_ValueError bt_ValueError (jv 0)))))))) (jss_one (js_ret je_str)) jss_nil)
    (jss_cons (js_set (i := 2) S.nd rfl (by first | exact Or.inl rfl | exact Or.inr rfl) (je_lst (ja_cons je_str (ja_cons je_str (ja_cons je_str (ja_cons je_str (ja_cons je_str (ja_cons je_str (ja_cons je_str (ja_cons je_str (ja_cons je_str ja_nil)))))))))))
    (jss_one (js_ret (je_ix (jv 2) (je_mthR PySem.F.plainAttrs_list PySem.F.slot_list_index PySem.F.type_list_index mthr_index (jv 1) (ja_cons je_bl ja_nil)) (fun _ _ => rfl)))))))))
theorem kb__law_refusal_1 {K : PySem.W.Frag} : ∀ f fd, FunD K "_law_refusal" "_law_refusal" (defArgs s__law_refusal) (defBody s__law_refusal) (defScope s__law_refusal) [] [] f fd → ∃ g, KBn K fd ["_law_caught"] 1 [] g (fun vs zs => plc pt__law_refusal_1 vs [] [] zs) := fun f fd F => kb_plc0 F 1 [] pt__law_refusal_1 fun _ _ _ _ _ _ us ws h1 h2 => match us, ws, h1, h2 with | [_], [], _, _ => rfl
theorem kr__law_refusal_1 {K : PySem.W.Frag} {cl : Str → Option Addr} : KRel K cl 1 0 (fun vs zs => plc pt__law_refusal_1 vs [] [] zs) gD__law_refusal_1 := krel_plc trivial trivial
theorem kl__law_refusal_1 : ∀ ds zs, ds.length = 1 → zs.length = 0 → (gD__law_refusal_1 ds zs).length = 1 := fun ds zs h1 h2 => match ds, zs, h1, h2 with | [_], [], _, _ => rfl
/-! ### _law_made -/
abbrev s__law_made : Stmt := top 31
theorem sc__law_made : FnScope ["_law_worths", "_law_some", "_law_foes", "_law_caught", "e"] ["_law_worths", "_law_some", "_law_foes"] (defScope s__law_made) := ⟨rfl, rfl, rfl, by decide +kernel, rfl, by decide +kernel, by decide +kernel⟩
abbrev At__law_made (P : Program) (w : World) (K : PySem.W.Frag) (mg : Str → Option Value) (base : Heap) (cl : Str → Option Addr) (Z : Nat → Addr) : Prop := FnAt P w K mg base cl "_law_made" s__law_made [] [] 5 3 ["_law_worths", "_law_some", "_law_foes"] M__law_made
theorem ok__law_made {P : Program} {w : World} {K : PySem.W.Frag} {mg : Str → Option Value} {base : Heap} {cl : Str → Option Addr} {Z : Nat → Addr} {f : Addr} {fd : FuncData} (F : FunD K "_law_made" "_law_made" (defArgs s__law_made) (defBody s__law_made) (defScope s__law_made) [] [] f fd) (T : Tx K mg cl Z) (G_Meeting___init__ : At_Meeting___init__ P w K mg base cl Z) (G__law_refusal : At__law_refusal P w K mg base cl Z) : FnOk P w K mg base (L2.CX P w) 5 f fd ["_law_worths", "_law_some", "_law_foes"] (spM K cl 3 M__law_made) := by
  refine fn_ok F sc__law_made rfl rfl fun cdv A outer s H E hr => ?_
  have S := sc__law_made
  have hu : (A.deeper (envOfC "_law_made" (defScope s__law_made) s.heap.objs.size f cdv)).units + 64 < cLine := hr.units
  have hu5 : (A.deeper (envOfC "_law_made" (defScope s__law_made) s.heap.objs.size f cdv)).units + 65 < cLine := by have z := hr.un; omega
  have hu1 : (A.deeper (envOfC "_law_made" (defScope s__law_made) s.heap.objs.size f cdv)).units + 1 < cLine := by omega
  have hu2 : (A.deeper (envOfC "_law_made" (defScope s__law_made) s.heap.objs.size f cdv)).units + 2 < cLine := by omega
  exact (jss_cons (js_set (i := 3) S.nd rfl (by first | exact Or.inl rfl | exact Or.inr rfl) je_non)
    (jss_cons (js_tryX (i := 4) T.h_LiarError rfl rfl rfl rfl S.nd rfl rfl (takes_of rfl rfl rfl rfl) (fun W2 pn xe tk hpo => (jss_one (js_expr (je_mk G_Meeting___init__ kb_Meeting___init___2_few_liars kr_Meeting___init___2_few_liars kl_Meeting___init___2_few_liars (hr.mono (by decide)) rfl tk (ja_cons (jv 0) ja_nil) (jk_cons (jv 1) (jk_cons (jv 2) jk_nil)))))) (fun a pn => (jss_one (js_set (i := 3) S.nd rfl (by first | exact Or.inl rfl | exact Or.inr rfl) (jv 4)))))
    (jss_one (js_ret (je_if (jt_cmp op2_is (jv 3) je_non (nomark _)) je_str (je_fn G__law_refusal kb__law_refusal_1 kr__law_refusal_1 kl__law_refusal_1 (hr.mono (by decide)) rfl (takes_of rfl rfl rfl rfl) (ja_cons (jv 3) ja_nil) jk_nil))))))
theorem kb__law_made_3 {K : PySem.W.Frag} : ∀ f fd, FunD K "_law_made" "_law_made" (defArgs s__law_made) (defBody s__law_made) (defScope s__law_made) [] [] f fd → ∃ g, KBn K fd ["_law_worths", "_law_some", "_law_foes"] 3 [] g (fun vs zs => plc pt__law_made_3 vs [] [] zs) := fun f fd F => kb_plc0 F 3 [] pt__law_made_3 fun _ _ _ _ _ _ us ws h1 h2 => match us, ws, h1, h2 with | [_, _, _], [], _, _ => rfl
theorem kr__law_made_3 {K : PySem.W.Frag} {cl : Str → Option Addr} : KRel K cl 3 0 (fun vs zs => plc pt__law_made_3 vs [] [] zs) gD__law_made_3 := krel_plc trivial trivial
theorem kl__law_made_3 : ∀ ds zs, ds.length = 3 → zs.length = 0 → (gD__law_made_3 ds zs).length = 3 := fun ds zs h1 h2 => match ds, zs, h1, h2 with | [_, _, _], [], _, _ => rfl
/-! ### Meeting_honest -/
abbrev s_Meeting_honest : Stmt := inClass (top 24) 1
theorem sc_Meeting_honest : FnScope ["self", "house"] ["self"] (defScope s_Meeting_honest) := ⟨rfl, rfl, rfl, by decide +kernel, rfl, by decide +kernel, by decide +kernel⟩
abbrev At_Meeting_honest (P : Program) (w : World) (K : PySem.W.Frag) (mg : Str → Option Value) (base : Heap) (cl : Str → Option Addr) (Z : Nat → Addr) : Prop := MtAt P w K mg base cl ["Meeting"] "honest" "Meeting.honest" s_Meeting_honest [] [] 1 1 ["self"] M_Meeting_honest
theorem ok_Meeting_honest {P : Program} {w : World} {K : PySem.W.Frag} {mg : Str → Option Value} {base : Heap} {cl : Str → Option Addr} {Z : Nat → Addr} {f : Addr} {fd : FuncData} (F : FunD K "honest" "Meeting.honest" (defArgs s_Meeting_honest) (defBody s_Meeting_honest) (defScope s_Meeting_honest) [] [] f fd) (T : Tx K mg cl Z)  : FnOk P w K mg base (L2.CX P w) 1 f fd ["self"] (spM K cl 1 M_Meeting_honest) := by
  refine fn_ok F sc_Meeting_honest rfl rfl fun cdv A outer s H E hr => ?_
  have S := sc_Meeting_honest
  have hu : (A.deeper (envOfC "Meeting.honest" (defScope s_Meeting_honest) s.heap.objs.size f cdv)).units + 64 < cLine := hr.units
  have hu5 : (A.deeper (envOfC "Meeting.honest" (defScope s_Meeting_honest) s.heap.objs.size f cdv)).units + 65 < cLine := by have z := hr.un; omega
  have hu1 : (A.deeper (envOfC "Meeting.honest" (defScope s_Meeting_honest) s.heap.objs.size f cdv)).units + 1 < cLine := by omega
  have hu2 : (A.deeper (envOfC "Meeting.honest" (defScope s_Meeting_honest) s.heap.objs.size f cdv)).units + 2 < cLine := by omega
  exact (jss_one (js_ret (je_lc (own := [("house", 1)]) rfl S.nd (ji_range1 rfl T.n_range (ja_cons (je_callB call_lenM rfl T.n_len bt_len (ja_cons (je_fld T.f_numbers (jv 0)) ja_nil)) ja_nil)) (blkOk_by (own := [("house", 1)]) (N := ["self", "house"]) (sc := defScope s_Meeting_honest) (by decide +kernel)) (by decide) (fun _ _ _ _ _ => (jg_name S.nd rfl (by first | exact Or.inl rfl | exact Or.inr rfl))) (fun _ _ _ _ _ => (jts_one (jt_cmp (op2_notIn hu5) (jv 1) (je_fld T.f_liars (jv 0)) (by rfl)))) (fun _ _ _ _ _ => (jv 1)))))
theorem kb_Meeting_honest_1 {K : PySem.W.Frag} : ∀ f fd, FunD K "honest" "Meeting.honest" (defArgs s_Meeting_honest) (defBody s_Meeting_honest) (defScope s_Meeting_honest) [] [] f fd → ∃ g, KBn K fd ["self"] 1 [] g (fun vs zs => plc pt_Meeting_honest_1 vs [] [] zs) := fun f fd F => kb_plc0 F 1 [] pt_Meeting_honest_1 fun _ _ _ _ _ _ us ws h1 h2 => match us, ws, h1, h2 with | [_], [], _, _ => rfl
theorem kr_Meeting_honest_1 {K : PySem.W.Frag} {cl : Str → Option Addr} : KRel K cl 1 0 (fun vs zs => plc pt_Meeting_honest_1 vs [] [] zs) gD_Meeting_honest_1 := krel_plc trivial trivial
theorem kl_Meeting_honest_1 : ∀ ds zs, ds.length = 1 → zs.length = 0 → (gD_Meeting_honest_1 ds zs).length = 1 := fun ds zs h1 h2 => match ds, zs, h1, h2 with | [_], [], _, _ => rfl
/-! ### Meeting_numbers_now -/
abbrev s_Meeting_numbers_now : Stmt := inClass (top 24) 5
theorem sc_Meeting_numbers_now : FnScope ["self", "house"] ["self"] (defScope s_Meeting_numbers_now) := ⟨rfl, rfl, rfl, by decide +kernel, rfl, by decide +kernel, by decide +kernel⟩
abbrev At_Meeting_numbers_now (P : Program) (w : World) (K : PySem.W.Frag) (mg : Str → Option Value) (base : Heap) (cl : Str → Option Addr) (Z : Nat → Addr) : Prop := MtAt P w K mg base cl ["Meeting"] "numbers_now" "Meeting.numbers_now" s_Meeting_numbers_now [] [] 2 1 ["self"] M_Meeting_numbers_now
theorem ok_Meeting_numbers_now {P : Program} {w : World} {K : PySem.W.Frag} {mg : Str → Option Value} {base : Heap} {cl : Str → Option Addr} {Z : Nat → Addr} {f : Addr} {fd : FuncData} (F : FunD K "numbers_now" "Meeting.numbers_now" (defArgs s_Meeting_numbers_now) (defBody s_Meeting_numbers_now) (defScope s_Meeting_numbers_now) [] [] f fd) (T : Tx K mg cl Z) (G_Meeting_honest : At_Meeting_honest P w K mg base cl Z) : FnOk P w K mg base (L2.CX P w) 2 f fd ["self"] (spM K cl 1 M_Meeting_numbers_now) := by
  refine fn_ok F sc_Meeting_numbers_now rfl rfl fun cdv A outer s H E hr => ?_
  have S := sc_Meeting_numbers_now
  have hu : (A.deeper (envOfC "Meeting.numbers_now" (defScope s_Meeting_numbers_now) s.heap.objs.size f cdv)).units + 64 < cLine := hr.units
  have hu5 : (A.deeper (envOfC "Meeting.numbers_now" (defScope s_Meeting_numbers_now) s.heap.objs.size f cdv)).units + 65 < cLine := by have z := hr.un; omega
  have hu1 : (A.deeper (envOfC "Meeting.numbers_now" (defScope s_Meeting_numbers_now) s.heap.objs.size f cdv)).units + 1 < cLine := by omega
  have hu2 : (A.deeper (envOfC "Meeting.numbers_now" (defScope s_Meeting_numbers_now) s.heap.objs.size f cdv)).units + 2 < cLine := by omega
  exact (jss_one (js_ret (je_lc (own := [("house", 1)]) rfl S.nd (ji_val (je_mt0 G_Meeting_honest kb_Meeting_honest_1 kr_Meeting_honest_1 kl_Meeting_honest_1 (hr.mono (by decide)) (takes_of rfl rfl rfl rfl) (jv 0) jk_nil)) (blkOk_by (own := [("house", 1)]) (N := ["self", "house"]) (sc := defScope s_Meeting_numbers_now) (by decide +kernel)) (by decide) (fun _ _ _ _ _ => (jg_name S.nd rfl (by first | exact Or.inl rfl | exact Or.inr rfl))) (fun _ _ _ _ _ => jts_nil) (fun _ _ _ _ _ => (je_ix (je_fld T.f_numbers (jv 0)) (jv 1) (fun _ _ => rfl))))))
theorem kb_Meeting_numbers_now_1 {K : PySem.W.Frag} : ∀ f fd, FunD K "numbers_now" "Meeting.numbers_now" (defArgs s_Meeting_numbers_now) (defBody s_Meeting_numbers_now) (defScope s_Meeting_numbers_now) [] [] f fd → ∃ g, KBn K fd ["self"] 1 [] g (fun vs zs => plc pt_Meeting_numbers_now_1 vs [] [] zs) := fun f fd F => kb_plc0 F 1 [] pt_Meeting_numbers_now_1 fun _ _ _ _ _ _ us ws h1 h2 => match us, ws, h1, h2 with | [_], [], _, _ => rfl
theorem kr_Meeting_numbers_now_1 {K : PySem.W.Frag} {cl : Str → Option Addr} : KRel K cl 1 0 (fun vs zs => plc pt_Meeting_numbers_now_1 vs [] [] zs) gD_Meeting_numbers_now_1 := krel_plc trivial trivial
theorem kl_Meeting_numbers_now_1 : ∀ ds zs, ds.length = 1 → zs.length = 0 → (gD_Meeting_numbers_now_1 ds zs).length = 1 := fun ds zs h1 h2 => match ds, zs, h1, h2 with | [_], [], _, _ => rfl
/-! ### look_lies -/
abbrev s_look_lies : Stmt := top 23
theorem sc_look_lies : FnScope ["lies", "liars", "houses", "pair", "fine"] ["lies", "liars", "houses"] (defScope s_look_lies) := ⟨rfl, rfl, rfl, by decide +kernel, rfl, by decide +kernel, by decide +kernel⟩
abbrev At_look_lies (P : Program) (w : World) (K : PySem.W.Frag) (mg : Str → Option Value) (base : Heap) (cl : Str → Option Addr) (Z : Nat → Addr) : Prop := FnAt P w K mg base cl "look_lies" s_look_lies [] [] 2 3 ["lies", "liars", "houses"] M_look_lies
theorem ok_look_lies {P : Program} {w : World} {K : PySem.W.Frag} {mg : Str → Option Value} {base : Heap} {cl : Str → Option Addr} {Z : Nat → Addr} {f : Addr} {fd : FuncData} (F : FunD K "look_lies" "look_lies" (defArgs s_look_lies) (defBody s_look_lies) (defScope s_look_lies) [] [] f fd) (T : Tx K mg cl Z) (G_is_whole : At_is_whole P w K mg base cl Z) : FnOk P w K mg base (L2.CX P w) 2 f fd ["lies", "liars", "houses"] (spM K cl 3 M_look_lies) := by
  refine fn_ok F sc_look_lies rfl rfl fun cdv A outer s H E hr => ?_
  have S := sc_look_lies
  have hu : (A.deeper (envOfC "look_lies" (defScope s_look_lies) s.heap.objs.size f cdv)).units + 64 < cLine := hr.units
  have hu5 : (A.deeper (envOfC "look_lies" (defScope s_look_lies) s.heap.objs.size f cdv)).units + 65 < cLine := by have z := hr.un; omega
  have hu1 : (A.deeper (envOfC "look_lies" (defScope s_look_lies) s.heap.objs.size f cdv)).units + 1 < cLine := by omega
  have hu2 : (A.deeper (envOfC "look_lies" (defScope s_look_lies) s.heap.objs.size f cdv)).units + 2 < cLine := by omega
  exact (jss_cons (js_if (jt_not (jt_val (je_isT (T := "dict") rfl rfl T.n_isinstance rfl T.n_dict bt_dict (jv 0)))) (jss_one (js_raiseX T.e_BadLies rfl (takes_of rfl rfl rfl rfl) rfl)) jss_nil)
    (jss_one (js_forK (i := 0) (passes_of rfl) rfl rfl (by first | exact Or.inl rfl | exact Or.inr (Or.inl rfl) | exact Or.inr (Or.inr rfl)) (jg_name S.nd rfl (by first | exact Or.inl rfl | exact Or.inr rfl)) (jss_cons (js_set (i := 4) S.nd rfl (by first | exact Or.inl rfl | exact Or.inr rfl) (je_and (je_isT (T := "tuple") rfl rfl T.n_isinstance rfl T.n_tuple bt_tuple (jv 3)) (je_and (je_cmp (op2_eq hu) (je_callB call_lenM rfl T.n_len bt_len (ja_cons (jv 3) ja_nil)) je_int (nomark _)) (je_one (je_fn G_is_whole kb_is_whole_3 kr_is_whole_3 kl_is_whole_3 (hr.mono (by decide)) rfl (takes_of rfl rfl rfl rfl) (ja_cons (je_ix (jv 3) je_int (fun _ _ => rfl)) (ja_cons je_int (ja_cons (je_op op2_sub (jv 2) je_int) ja_nil))) jk_nil)))))
    (jss_one (js_if (PW.pt (jw_or (jt_not (jt_val (jv 4))) (jw_or (jt_val (je_isT (T := "bool") rfl rfl T.n_isinstance rfl T.n_bool bt_bool (je_ix (jv 3) je_int (fun _ _ => rfl)))) (jw_or (jt_cmp (op2_notIn hu5) (je_ix (jv 3) je_int (fun _ _ => rfl)) (jv 1) (by rfl)) (jw_or1 (jt_not (jt_val (je_fn G_is_whole kb_is_whole_3 kr_is_whole_3 kl_is_whole_3 (hr.mono (by decide)) rfl (takes_of rfl rfl rfl rfl) (ja_cons (je_dx hu1 (jv 0) (jv 3) (fun _ _ => rfl)) (ja_cons (je_neg (je_intc T.c_MOST rfl)) (ja_cons (je_intc T.c_MOST rfl) ja_nil))) jk_nil)))))))) (jss_one (js_raiseX T.e_BadLies rfl (takes_of rfl rfl rfl rfl) rfl)) jss_nil))))))
theorem kb_look_lies_3 {K : PySem.W.Frag} : ∀ f fd, FunD K "look_lies" "look_lies" (defArgs s_look_lies) (defBody s_look_lies) (defScope s_look_lies) [] [] f fd → ∃ g, KBn K fd ["lies", "liars", "houses"] 3 [] g (fun vs zs => plc pt_look_lies_3 vs [] [] zs) := fun f fd F => kb_plc0 F 3 [] pt_look_lies_3 fun _ _ _ _ _ _ us ws h1 h2 => match us, ws, h1, h2 with | [_, _, _], [], _, _ => rfl
theorem kr_look_lies_3 {K : PySem.W.Frag} {cl : Str → Option Addr} : KRel K cl 3 0 (fun vs zs => plc pt_look_lies_3 vs [] [] zs) gD_look_lies_3 := krel_plc trivial trivial
theorem kl_look_lies_3 : ∀ ds zs, ds.length = 3 → zs.length = 0 → (gD_look_lies_3 ds zs).length = 3 := fun ds zs h1 h2 => match ds, zs, h1, h2 with | [_, _, _], [], _, _ => rfl
/-! ### left_of -/
abbrev s_left_of : Stmt := top 19
theorem sc_left_of : FnScope ["worths", "few"] ["worths", "few"] (defScope s_left_of) := ⟨rfl, rfl, rfl, by decide +kernel, rfl, by decide +kernel, by decide +kernel⟩
abbrev At_left_of (P : Program) (w : World) (K : PySem.W.Frag) (mg : Str → Option Value) (base : Heap) (cl : Str → Option Addr) (Z : Nat → Addr) : Prop := FnAt P w K mg base cl "left_of" s_left_of [] [] 1 2 ["worths", "few"] M_left_of
theorem ok_left_of {P : Program} {w : World} {K : PySem.W.Frag} {mg : Str → Option Value} {base : Heap} {cl : Str → Option Addr} {Z : Nat → Addr} {f : Addr} {fd : FuncData} (F : FunD K "left_of" "left_of" (defArgs s_left_of) (defBody s_left_of) (defScope s_left_of) [] [] f fd) (T : Tx K mg cl Z)  : FnOk P w K mg base (L2.CX P w) 1 f fd ["worths", "few"] (spM K cl 2 M_left_of) := by
  refine fn_ok F sc_left_of rfl rfl fun cdv A outer s H E hr => ?_
  have S := sc_left_of
  have hu : (A.deeper (envOfC "left_of" (defScope s_left_of) s.heap.objs.size f cdv)).units + 64 < cLine := hr.units
  have hu5 : (A.deeper (envOfC "left_of" (defScope s_left_of) s.heap.objs.size f cdv)).units + 65 < cLine := by have z := hr.un; omega
  have hu1 : (A.deeper (envOfC "left_of" (defScope s_left_of) s.heap.objs.size f cdv)).units + 1 < cLine := by omega
  have hu2 : (A.deeper (envOfC "left_of" (defScope s_left_of) s.heap.objs.size f cdv)).units + 2 < cLine := by omega
  exact (jss_one (js_ret (je_slice (je_callB call_sortedM rfl T.n_sorted bt_sorted (ja_cons (jv 0) ja_nil)) (jo_some (jv 1)) (jo_some (je_op op2_sub (je_callB call_lenM rfl T.n_len bt_len (ja_cons (jv 0) ja_nil)) (jv 1))))))
theorem kb_left_of_2 {K : PySem.W.Frag} : ∀ f fd, FunD K "left_of" "left_of" (defArgs s_left_of) (defBody s_left_of) (defScope s_left_of) [] [] f fd → ∃ g, KBn K fd ["worths", "few"] 2 [] g (fun vs zs => plc pt_left_of_2 vs [] [] zs) := fun f fd F => kb_plc0 F 2 [] pt_left_of_2 fun _ _ _ _ _ _ us ws h1 h2 => match us, ws, h1, h2 with | [_, _], [], _, _ => rfl
theorem kr_left_of_2 {K : PySem.W.Frag} {cl : Str → Option Addr} : KRel K cl 2 0 (fun vs zs => plc pt_left_of_2 vs [] [] zs) gD_left_of_2 := krel_plc trivial trivial
theorem kl_left_of_2 : ∀ ds zs, ds.length = 2 → zs.length = 0 → (gD_left_of_2 ds zs).length = 2 := fun ds zs h1 h2 => match ds, zs, h1, h2 with | [_, _], [], _, _ => rfl
/-! ### middle_of -/
abbrev s_middle_of : Stmt := top 20
theorem sc_middle_of : FnScope ["worths", "few", "left"] ["worths", "few"] (defScope s_middle_of) := ⟨rfl, rfl, rfl, by decide +kernel, rfl, by decide +kernel, by decide +kernel⟩
abbrev At_middle_of (P : Program) (w : World) (K : PySem.W.Frag) (mg : Str → Option Value) (base : Heap) (cl : Str → Option Addr) (Z : Nat → Addr) : Prop := FnAt P w K mg base cl "middle_of" s_middle_of [] [] 2 2 ["worths", "few"] M_middle_of
theorem ok_middle_of {P : Program} {w : World} {K : PySem.W.Frag} {mg : Str → Option Value} {base : Heap} {cl : Str → Option Addr} {Z : Nat → Addr} {f : Addr} {fd : FuncData} (F : FunD K "middle_of" "middle_of" (defArgs s_middle_of) (defBody s_middle_of) (defScope s_middle_of) [] [] f fd) (T : Tx K mg cl Z) (G_left_of : At_left_of P w K mg base cl Z) : FnOk P w K mg base (L2.CX P w) 2 f fd ["worths", "few"] (spM K cl 2 M_middle_of) := by
  refine fn_ok F sc_middle_of rfl rfl fun cdv A outer s H E hr => ?_
  have S := sc_middle_of
  have hu : (A.deeper (envOfC "middle_of" (defScope s_middle_of) s.heap.objs.size f cdv)).units + 64 < cLine := hr.units
  have hu5 : (A.deeper (envOfC "middle_of" (defScope s_middle_of) s.heap.objs.size f cdv)).units + 65 < cLine := by have z := hr.un; omega
  have hu1 : (A.deeper (envOfC "middle_of" (defScope s_middle_of) s.heap.objs.size f cdv)).units + 1 < cLine := by omega
  have hu2 : (A.deeper (envOfC "middle_of" (defScope s_middle_of) s.heap.objs.size f cdv)).units + 2 < cLine := by omega
  exact (jss_cons (js_set (i := 2) S.nd rfl (by first | exact Or.inl rfl | exact Or.inr rfl) (je_fn G_left_of kb_left_of_2 kr_left_of_2 kl_left_of_2 (hr.mono (by decide)) rfl (takes_of rfl rfl rfl rfl) (ja_cons (jv 0) (ja_cons (jv 1) ja_nil)) jk_nil))
    (jss_one (js_ret (je_op op2_div (je_op op2_add (je_ix (jv 2) je_int (fun _ _ => rfl)) (je_ix (jv 2) (je_neg je_int) (fun _ _ => rfl))) je_int))))
theorem kb_middle_of_2 {K : PySem.W.Frag} : ∀ f fd, FunD K "middle_of" "middle_of" (defArgs s_middle_of) (defBody s_middle_of) (defScope s_middle_of) [] [] f fd → ∃ g, KBn K fd ["worths", "few"] 2 [] g (fun vs zs => plc pt_middle_of_2 vs [] [] zs) := fun f fd F => kb_plc0 F 2 [] pt_middle_of_2 fun _ _ _ _ _ _ us ws h1 h2 => match us, ws, h1, h2 with | [_, _], [], _, _ => rfl
theorem kr_middle_of_2 {K : PySem.W.Frag} {cl : Str → Option Addr} : KRel K cl 2 0 (fun vs zs => plc pt_middle_of_2 vs [] [] zs) gD_middle_of_2 := krel_plc trivial trivial
theorem kl_middle_of_2 : ∀ ds zs, ds.length = 2 → zs.length = 0 → (gD_middle_of_2 ds zs).length = 2 := fun ds zs h1 h2 => match ds, zs, h1, h2 with | [_, _], [], _, _ => rfl
/-! ### Meeting_heard -/
abbrev s_Meeting_heard : Stmt := inClass (top 24) 2
theorem sc_Meeting_heard : FnScope ["self", "house", "lies", "one"] ["self", "house", "lies"] (defScope s_Meeting_heard) := ⟨rfl, rfl, rfl, by decide +kernel, rfl, by decide +kernel, by decide +kernel⟩
abbrev At_Meeting_heard (P : Program) (w : World) (K : PySem.W.Frag) (mg : Str → Option Value) (base : Heap) (cl : Str → Option Addr) (Z : Nat → Addr) : Prop := MtAt P w K mg base cl ["Meeting"] "heard" "Meeting.heard" s_Meeting_heard [] [] 1 3 ["self", "house", "lies"] M_Meeting_heard
theorem ok_Meeting_heard {P : Program} {w : World} {K : PySem.W.Frag} {mg : Str → Option Value} {base : Heap} {cl : Str → Option Addr} {Z : Nat → Addr} {f : Addr} {fd : FuncData} (F : FunD K "heard" "Meeting.heard" (defArgs s_Meeting_heard) (defBody s_Meeting_heard) (defScope s_Meeting_heard) [] [] f fd) (T : Tx K mg cl Z)  : FnOk P w K mg base (L2.CX P w) 1 f fd ["self", "house", "lies"] (spM K cl 3 M_Meeting_heard) := by
  refine fn_ok F sc_Meeting_heard rfl rfl fun cdv A outer s H E hr => ?_
  have S := sc_Meeting_heard
  have hu : (A.deeper (envOfC "Meeting.heard" (defScope s_Meeting_heard) s.heap.objs.size f cdv)).units + 64 < cLine := hr.units
  have hu5 : (A.deeper (envOfC "Meeting.heard" (defScope s_Meeting_heard) s.heap.objs.size f cdv)).units + 65 < cLine := by have z := hr.un; omega
  have hu1 : (A.deeper (envOfC "Meeting.heard" (defScope s_Meeting_heard) s.heap.objs.size f cdv)).units + 1 < cLine := by omega
  have hu2 : (A.deeper (envOfC "Meeting.heard" (defScope s_Meeting_heard) s.heap.objs.size f cdv)).units + 2 < cLine := by omega
  exact (jss_one (js_ret (je_lc (own := [("one", 3)]) rfl S.nd (ji_range1 rfl T.n_range (ja_cons (je_callB call_lenM rfl T.n_len bt_len (ja_cons (je_fld T.f_numbers (jv 0)) ja_nil)) ja_nil)) (blkOk_by (own := [("one", 3)]) (N := ["self", "house", "lies", "one"]) (sc := defScope s_Meeting_heard) (by decide +kernel)) (by decide) (fun _ _ _ _ _ => (jg_name S.nd rfl (by first | exact Or.inl rfl | exact Or.inr rfl))) (fun _ _ _ _ _ => jts_nil) (fun _ _ _ _ _ => (je_get2 hu1 (jv 2) (je_tup (ja_cons (jv 3) (ja_cons (jv 1) ja_nil))) (je_ix (je_fld T.f_numbers (jv 0)) (jv 3) (fun _ _ => rfl)) ⟨rfl, rfl, rfl, rfl⟩)))))
theorem kb_Meeting_heard_3 {K : PySem.W.Frag} : ∀ f fd, FunD K "heard" "Meeting.heard" (defArgs s_Meeting_heard) (defBody s_Meeting_heard) (defScope s_Meeting_heard) [] [] f fd → ∃ g, KBn K fd ["self", "house", "lies"] 3 [] g (fun vs zs => plc pt_Meeting_heard_3 vs [] [] zs) := fun f fd F => kb_plc0 F 3 [] pt_Meeting_heard_3 fun _ _ _ _ _ _ us ws h1 h2 => match us, ws, h1, h2 with | [_, _, _], [], _, _ => rfl
theorem kr_Meeting_heard_3 {K : PySem.W.Frag} {cl : Str → Option Addr} : KRel K cl 3 0 (fun vs zs => plc pt_Meeting_heard_3 vs [] [] zs) gD_Meeting_heard_3 := krel_plc trivial trivial
theorem kl_Meeting_heard_3 : ∀ ds zs, ds.length = 3 → zs.length = 0 → (gD_Meeting_heard_3 ds zs).length = 3 := fun ds zs h1 h2 => match ds, zs, h1, h2 with | [_, _, _], [], _, _ => rfl
/-! ### Meeting_meet -/
abbrev s_Meeting_meet : Stmt := inClass (top 24) 3
theorem sc_Meeting_meet : FnScope ["self", "lies", "new", "house"] ["self", "lies"] (defScope s_Meeting_meet) := ⟨rfl, rfl, rfl, by decide +kernel, rfl, by decide +kernel, by decide +kernel⟩
abbrev At_Meeting_meet (P : Program) (w : World) (K : PySem.W.Frag) (mg : Str → Option Value) (base : Heap) (cl : Str → Option Addr) (Z : Nat → Addr) : Prop := MtAt P w K mg base cl ["Meeting"] "meet" "Meeting.meet" s_Meeting_meet [] [] 3 2 ["self", "lies"] M_Meeting_meet
theorem ok_Meeting_meet {P : Program} {w : World} {K : PySem.W.Frag} {mg : Str → Option Value} {base : Heap} {cl : Str → Option Addr} {Z : Nat → Addr} {f : Addr} {fd : FuncData} (F : FunD K "meet" "Meeting.meet" (defArgs s_Meeting_meet) (defBody s_Meeting_meet) (defScope s_Meeting_meet) [] [] f fd) (T : Tx K mg cl Z) (G_look_lies : At_look_lies P w K mg base cl Z) (G_Meeting_honest : At_Meeting_honest P w K mg base cl Z) (G_middle_of : At_middle_of P w K mg base cl Z) (G_Meeting_heard : At_Meeting_heard P w K mg base cl Z) : FnOk P w K mg base (L2.CX P w) 3 f fd ["self", "lies"] (spM K cl 2 M_Meeting_meet) := by
  refine fn_ok F sc_Meeting_meet rfl rfl fun cdv A outer s H E hr => ?_
  have S := sc_Meeting_meet
  have hu : (A.deeper (envOfC "Meeting.meet" (defScope s_Meeting_meet) s.heap.objs.size f cdv)).units + 64 < cLine := hr.units
  have hu5 : (A.deeper (envOfC "Meeting.meet" (defScope s_Meeting_meet) s.heap.objs.size f cdv)).units + 65 < cLine := by have z := hr.un; omega
  have hu1 : (A.deeper (envOfC "Meeting.meet" (defScope s_Meeting_meet) s.heap.objs.size f cdv)).units + 1 < cLine := by omega
  have hu2 : (A.deeper (envOfC "Meeting.meet" (defScope s_Meeting_meet) s.heap.objs.size f cdv)).units + 2 < cLine := by omega
  exact (jss_cons (js_expr (je_fn G_look_lies kb_look_lies_3 kr_look_lies_3 kl_look_lies_3 (hr.mono (by decide)) rfl (takes_of rfl rfl rfl rfl) (ja_cons (jv 1) (ja_cons (je_fld T.f_liars (jv 0)) (ja_cons (je_callB call_lenM rfl T.n_len bt_len (ja_cons (je_fld T.f_numbers (jv 0)) ja_nil)) ja_nil))) jk_nil))
    (jss_cons (js_setDc (i := 2) (own := [("house", 3)]) mkV_ok rfl S.nd rfl rfl (sw_dc rfl rfl rfl (by decide +kernel)) (ji_val (je_mt0 G_Meeting_honest kb_Meeting_honest_1 kr_Meeting_honest_1 kl_Meeting_honest_1 (hr.mono (by decide)) (takes_of rfl rfl rfl rfl) (jv 0) jk_nil)) (blkOk_by (own := [("house", 3)]) (N := ["self", "lies", "new", "house"]) (sc := defScope s_Meeting_meet) (by decide +kernel)) (by decide) (fun _ _ _ _ _ => (jg_name S.nd rfl (by first | exact Or.inl rfl | exact Or.inr rfl))) (fun _ _ _ _ _ => jts_nil) (fun _ _ _ _ _ => (jv 3)) (fun _ _ _ _ _ => (je_fn G_middle_of kb_middle_of_2 kr_middle_of_2 kl_middle_of_2 (hr.mono (by decide)) rfl takes0 (ja_cons (je_mt G_Meeting_heard kb_Meeting_heard_3 kr_Meeting_heard_3 kl_Meeting_heard_3 (hr.mono (by decide)) takes0 (jv 0) (ja_cons (jv 3) (ja_cons (jv 1) ja_nil)) jk_nil) (ja_cons (je_fld T.f_few (jv 0)) ja_nil)) jk_nil)))
    (jss_cons (js_forK (i := 2) (passes_of rfl) rfl rfl (by first | exact Or.inl rfl | exact Or.inr (Or.inl rfl) | exact Or.inr (Or.inr rfl)) (jg_name S.nd rfl (by first | exact Or.inl rfl | exact Or.inr rfl)) (jss_one (js_setix (je_dx hu1 (jv 2) (jv 3) (fun _ _ => rfl)) (je_fld T.f_numbers (jv 0)) (jv 3))))
    (jss_one (js_fld T.f_count (je_op op2_add (je_fld T.f_count (jv 0)) je_int) (jv 0))))))
theorem kb_Meeting_meet_2 {K : PySem.W.Frag} : ∀ f fd, FunD K "meet" "Meeting.meet" (defArgs s_Meeting_meet) (defBody s_Meeting_meet) (defScope s_Meeting_meet) [] [] f fd → ∃ g, KBn K fd ["self", "lies"] 2 [] g (fun vs zs => plc pt_Meeting_meet_2 vs [] [] zs) := fun f fd F => kb_plc0 F 2 [] pt_Meeting_meet_2 fun _ _ _ _ _ _ us ws h1 h2 => match us, ws, h1, h2 with | [_, _], [], _, _ => rfl
theorem kr_Meeting_meet_2 {K : PySem.W.Frag} {cl : Str → Option Addr} : KRel K cl 2 0 (fun vs zs => plc pt_Meeting_meet_2 vs [] [] zs) gD_Meeting_meet_2 := krel_plc trivial trivial
theorem kl_Meeting_meet_2 : ∀ ds zs, ds.length = 2 → zs.length = 0 → (gD_Meeting_meet_2 ds zs).length = 2 := fun ds zs h1 h2 => match ds, zs, h1, h2 with | [_, _], [], _, _ => rfl
/-! ### Meeting_number -/
abbrev s_Meeting_number : Stmt := inClass (top 24) 4
theorem sc_Meeting_number : FnScope ["self", "house"] ["self", "house"] (defScope s_Meeting_number) := ⟨rfl, rfl, rfl, by decide +kernel, rfl, by decide +kernel, by decide +kernel⟩
abbrev At_Meeting_number (P : Program) (w : World) (K : PySem.W.Frag) (mg : Str → Option Value) (base : Heap) (cl : Str → Option Addr) (Z : Nat → Addr) : Prop := MtAt P w K mg base cl ["Meeting"] "number" "Meeting.number" s_Meeting_number [] [] 3 2 ["self", "house"] M_Meeting_number
theorem ok_Meeting_number {P : Program} {w : World} {K : PySem.W.Frag} {mg : Str → Option Value} {base : Heap} {cl : Str → Option Addr} {Z : Nat → Addr} {f : Addr} {fd : FuncData} (F : FunD K "number" "Meeting.number" (defArgs s_Meeting_number) (defBody s_Meeting_number) (defScope s_Meeting_number) [] [] f fd) (T : Tx K mg cl Z) (G_is_whole : At_is_whole P w K mg base cl Z) (GN : NhAt P w K mg base cl) : FnOk P w K mg base (L2.CX P w) 3 f fd ["self", "house"] (spM K cl 2 M_Meeting_number) := by
  refine fn_ok F sc_Meeting_number rfl rfl fun cdv A outer s H E hr => ?_
  have S := sc_Meeting_number
  have hu : (A.deeper (envOfC "Meeting.number" (defScope s_Meeting_number) s.heap.objs.size f cdv)).units + 64 < cLine := hr.units
  have hu5 : (A.deeper (envOfC "Meeting.number" (defScope s_Meeting_number) s.heap.objs.size f cdv)).units + 65 < cLine := by have z := hr.un; omega
  have hu1 : (A.deeper (envOfC "Meeting.number" (defScope s_Meeting_number) s.heap.objs.size f cdv)).units + 1 < cLine := by omega
  have hu2 : (A.deeper (envOfC "Meeting.number" (defScope s_Meeting_number) s.heap.objs.size f cdv)).units + 2 < cLine := by omega
  exact (jss_cons (js_if (PW.pt (jw_or (jt_not (jt_val (je_fn G_is_whole kb_is_whole_3 kr_is_whole_3 kl_is_whole_3 (hr.mono (by decide)) rfl (takes_of rfl rfl rfl rfl) (ja_cons (jv 1) (ja_cons je_int (ja_cons (je_op op2_sub (je_callB call_lenM rfl T.n_len bt_len (ja_cons (je_fld T.f_numbers (jv 0)) ja_nil)) je_int) ja_nil))) jk_nil))) (jw_or1 (jt_cmp (op2_in hu5) (jv 1) (je_fld T.f_liars (jv 0)) (by rfl))))) (jss_one (js_raiseH GN rfl (hr.mono (by decide)) (takes_of rfl rfl rfl rfl) (jv 1) rfl)) jss_nil)
    (jss_one (js_ret (je_ix (je_fld T.f_numbers (jv 0)) (jv 1) (fun _ _ => rfl)))))
theorem kb_Meeting_number_2 {K : PySem.W.Frag} : ∀ f fd, FunD K "number" "Meeting.number" (defArgs s_Meeting_number) (defBody s_Meeting_number) (defScope s_Meeting_number) [] [] f fd → ∃ g, KBn K fd ["self", "house"] 2 [] g (fun vs zs => plc pt_Meeting_number_2 vs [] [] zs) := fun f fd F => kb_plc0 F 2 [] pt_Meeting_number_2 fun _ _ _ _ _ _ us ws h1 h2 => match us, ws, h1, h2 with | [_, _], [], _, _ => rfl
theorem kr_Meeting_number_2 {K : PySem.W.Frag} {cl : Str → Option Addr} : KRel K cl 2 0 (fun vs zs => plc pt_Meeting_number_2 vs [] [] zs) gD_Meeting_number_2 := krel_plc trivial trivial
theorem kl_Meeting_number_2 : ∀ ds zs, ds.length = 2 → zs.length = 0 → (gD_Meeting_number_2 ds zs).length = 2 := fun ds zs h1 h2 => match ds, zs, h1, h2 with | [_, _], [], _, _ => rfl
/-! ### _law_asked -/
abbrev s__law_asked : Stmt := top 32
theorem sc__law_asked : FnScope ["_law_meeting", "_law_kind", "_law_thing", "_law_caught", "_law_found", "e"] ["_law_meeting", "_law_kind", "_law_thing"] (defScope s__law_asked) := ⟨rfl, rfl, rfl, by decide +kernel, rfl, by decide +kernel, by decide +kernel⟩
abbrev At__law_asked (P : Program) (w : World) (K : PySem.W.Frag) (mg : Str → Option Value) (base : Heap) (cl : Str → Option Addr) (Z : Nat → Addr) : Prop := FnAt P w K mg base cl "_law_asked" s__law_asked [] [] 4 3 ["_law_meeting", "_law_kind", "_law_thing"] M__law_asked
theorem ok__law_asked {P : Program} {w : World} {K : PySem.W.Frag} {mg : Str → Option Value} {base : Heap} {cl : Str → Option Addr} {Z : Nat → Addr} {f : Addr} {fd : FuncData} (F : FunD K "_law_asked" "_law_asked" (defArgs s__law_asked) (defBody s__law_asked) (defScope s__law_asked) [] [] f fd) (T : Tx K mg cl Z) (G_Meeting_meet : At_Meeting_meet P w K mg base cl Z) (G_Meeting_number : At_Meeting_number P w K mg base cl Z) (G__law_refusal : At__law_refusal P w K mg base cl Z) : FnOk P w K mg base (L2.CX P w) 4 f fd ["_law_meeting", "_law_kind", "_law_thing"] (spM K cl 3 M__law_asked) := by
  refine fn_ok F sc__law_asked rfl rfl fun cdv A outer s H E hr => ?_
  have S := sc__law_asked
  have hu : (A.deeper (envOfC "_law_asked" (defScope s__law_asked) s.heap.objs.size f cdv)).units + 64 < cLine := hr.units
  have hu5 : (A.deeper (envOfC "_law_asked" (defScope s__law_asked) s.heap.objs.size f cdv)).units + 65 < cLine := by have z := hr.un; omega
  have hu1 : (A.deeper (envOfC "_law_asked" (defScope s__law_asked) s.heap.objs.size f cdv)).units + 1 < cLine := by omega
  have hu2 : (A.deeper (envOfC "_law_asked" (defScope s__law_asked) s.heap.objs.size f cdv)).units + 2 < cLine := by omega
  exact (jss_cons (js_set (i := 3) S.nd rfl (by first | exact Or.inl rfl | exact Or.inr rfl) je_non)
    (jss_cons (js_set (i := 4) S.nd rfl (by first | exact Or.inl rfl | exact Or.inr rfl) je_non)
    (jss_cons (js_trys (i := 5) rfl rfl rfl S.nd rfl rfl (takes_of rfl rfl rfl rfl) (fun W2 pn xe tk hpo => (jss_one (js_if (jt_cmp (op2_eq hu) (jv 1) je_int (nomark _)) (jss_one (js_expr (je_mt G_Meeting_meet kb_Meeting_meet_2 kr_Meeting_meet_2 kl_Meeting_meet_2 (hr.mono (by decide)) tk (jv 0) (ja_cons (jv 2) ja_nil) jk_nil))) (jss_one (js_expr (je_mt G_Meeting_number kb_Meeting_number_2 kr_Meeting_number_2 kl_Meeting_number_2 (hr.mono (by decide)) tk (jv 0) (ja_cons (jv 2) ja_nil) jk_nil)))))) (JCx.toJCs (.cons T.hb_NoHouse rfl (by decide) (fun a pn => (jss_cons (js_set (i := 4) S.nd rfl (by first | exact Or.inl rfl | exact Or.inr rfl) (je_tup (ja_cons je_str (ja_cons (je_house T.xf (jv 5)) ja_nil))))
    (jss_one (js_set (i := 3) S.nd rfl (by first | exact Or.inl rfl | exact Or.inr rfl) (jv 5))))) (.cons T.hb_LiarError rfl (by decide) (fun a pn => (jss_cons (js_set (i := 4) S.nd rfl (by first | exact Or.inl rfl | exact Or.inr rfl) je_non)
    (jss_one (js_set (i := 3) S.nd rfl (by first | exact Or.inl rfl | exact Or.inr rfl) (jv 5))))) .nil))))
    (jss_one (js_ret (je_if (jt_cmp op2_is (jv 3) je_non (nomark _)) je_str (je_if (jt_cmp op2_is (jv 4) je_non (nomark _)) (je_fn G__law_refusal kb__law_refusal_1 kr__law_refusal_1 kl__law_refusal_1 (hr.mono (by decide)) rfl (takes_of rfl rfl rfl rfl) (ja_cons (jv 3) ja_nil) jk_nil) (jv 4))))))))
theorem kb__law_asked_3 {K : PySem.W.Frag} : ∀ f fd, FunD K "_law_asked" "_law_asked" (defArgs s__law_asked) (defBody s__law_asked) (defScope s__law_asked) [] [] f fd → ∃ g, KBn K fd ["_law_meeting", "_law_kind", "_law_thing"] 3 [] g (fun vs zs => plc pt__law_asked_3 vs [] [] zs) := fun f fd F => kb_plc0 F 3 [] pt__law_asked_3 fun _ _ _ _ _ _ us ws h1 h2 => match us, ws, h1, h2 with | [_, _, _], [], _, _ => rfl
theorem kr__law_asked_3 {K : PySem.W.Frag} {cl : Str → Option Addr} : KRel K cl 3 0 (fun vs zs => plc pt__law_asked_3 vs [] [] zs) gD__law_asked_3 := krel_plc trivial trivial
theorem kl__law_asked_3 : ∀ ds zs, ds.length = 3 → zs.length = 0 → (gD__law_asked_3 ds zs).length = 3 := fun ds zs h1 h2 => match ds, zs, h1, h2 with | [_, _, _], [], _, _ => rfl
/-! ### Meeting_rounds -/
abbrev s_Meeting_rounds : Stmt := inClass (top 24) 7
theorem sc_Meeting_rounds : FnScope ["self"] ["self"] (defScope s_Meeting_rounds) := ⟨rfl, rfl, rfl, by decide +kernel, rfl, by decide +kernel, by decide +kernel⟩
abbrev At_Meeting_rounds (P : Program) (w : World) (K : PySem.W.Frag) (mg : Str → Option Value) (base : Heap) (cl : Str → Option Addr) (Z : Nat → Addr) : Prop := MtAt P w K mg base cl ["Meeting"] "rounds" "Meeting.rounds" s_Meeting_rounds [] [] 1 1 ["self"] M_Meeting_rounds
theorem ok_Meeting_rounds {P : Program} {w : World} {K : PySem.W.Frag} {mg : Str → Option Value} {base : Heap} {cl : Str → Option Addr} {Z : Nat → Addr} {f : Addr} {fd : FuncData} (F : FunD K "rounds" "Meeting.rounds" (defArgs s_Meeting_rounds) (defBody s_Meeting_rounds) (defScope s_Meeting_rounds) [] [] f fd) (T : Tx K mg cl Z)  : FnOk P w K mg base (L2.CX P w) 1 f fd ["self"] (spM K cl 1 M_Meeting_rounds) := by
  refine fn_ok F sc_Meeting_rounds rfl rfl fun cdv A outer s H E hr => ?_
  have S := sc_Meeting_rounds
  have hu : (A.deeper (envOfC "Meeting.rounds" (defScope s_Meeting_rounds) s.heap.objs.size f cdv)).units + 64 < cLine := hr.units
  have hu5 : (A.deeper (envOfC "Meeting.rounds" (defScope s_Meeting_rounds) s.heap.objs.size f cdv)).units + 65 < cLine := by have z := hr.un; omega
  have hu1 : (A.deeper (envOfC "Meeting.rounds" (defScope s_Meeting_rounds) s.heap.objs.size f cdv)).units + 1 < cLine := by omega
  have hu2 : (A.deeper (envOfC "Meeting.rounds" (defScope s_Meeting_rounds) s.heap.objs.size f cdv)).units + 2 < cLine := by omega
  exact (jss_one (js_ret (je_fld T.f_count (jv 0))))
theorem kb_Meeting_rounds_1 {K : PySem.W.Frag} : ∀ f fd, FunD K "rounds" "Meeting.rounds" (defArgs s_Meeting_rounds) (defBody s_Meeting_rounds) (defScope s_Meeting_rounds) [] [] f fd → ∃ g, KBn K fd ["self"] 1 [] g (fun vs zs => plc pt_Meeting_rounds_1 vs [] [] zs) := fun f fd F => kb_plc0 F 1 [] pt_Meeting_rounds_1 fun _ _ _ _ _ _ us ws h1 h2 => match us, ws, h1, h2 with | [_], [], _, _ => rfl
theorem kr_Meeting_rounds_1 {K : PySem.W.Frag} {cl : Str → Option Addr} : KRel K cl 1 0 (fun vs zs => plc pt_Meeting_rounds_1 vs [] [] zs) gD_Meeting_rounds_1 := krel_plc trivial trivial
theorem kl_Meeting_rounds_1 : ∀ ds zs, ds.length = 1 → zs.length = 0 → (gD_Meeting_rounds_1 ds zs).length = 1 := fun ds zs h1 h2 => match ds, zs, h1, h2 with | [_], [], _, _ => rfl
/-! ### law -/
abbrev s_law : Stmt := top 33
theorem sc_law : FnScope ["_law_script", "_law_town_here", "_law_worths", "_law_turn", "_law_bad", "_law_odd", "_law_meeting", "_law_ahead", "_law_thing", "_law_k"] ["_law_script"] (defScope s_law) := ⟨rfl, rfl, rfl, by decide +kernel, rfl, by decide +kernel, by decide +kernel⟩
abbrev At_law (P : Program) (w : World) (K : PySem.W.Frag) (mg : Str → Option Value) (base : Heap) (cl : Str → Option Addr) (Z : Nat → Addr) : Prop := FnAt P w K mg base cl "law" s_law [] [] 6 1 ["_law_script"] M_law
theorem ok_law {P : Program} {w : World} {K : PySem.W.Frag} {mg : Str → Option Value} {base : Heap} {cl : Str → Option Addr} {Z : Nat → Addr} {f : Addr} {fd : FuncData} (F : FunD K "law" "law" (defArgs s_law) (defBody s_law) (defScope s_law) [] [] f fd) (T : Tx K mg cl Z) (G__law_town : At__law_town P w K mg base cl Z) (G__law_number : At__law_number P w K mg base cl Z) (G__law_pick : At__law_pick P w K mg base cl Z) (G__law_made : At__law_made P w K mg base cl Z) (G_Meeting___init__ : At_Meeting___init__ P w K mg base cl Z) (G_Meeting_numbers_now : At_Meeting_numbers_now P w K mg base cl Z) (G__law_asked : At__law_asked P w K mg base cl Z) (G_Meeting_rounds : At_Meeting_rounds P w K mg base cl Z) : FnOk P w K mg base (L2.CX P w) 6 f fd ["_law_script"] (spM K cl 1 M_law) := by
  refine fn_ok F sc_law rfl rfl fun cdv A outer s H E hr => ?_
  have S := sc_law
  have hu : (A.deeper (envOfC "law" (defScope s_law) s.heap.objs.size f cdv)).units + 64 < cLine := hr.units
  have hu5 : (A.deeper (envOfC "law" (defScope s_law) s.heap.objs.size f cdv)).units + 65 < cLine := by have z := hr.un; omega
  have hu1 : (A.deeper (envOfC "law" (defScope s_law) s.heap.objs.size f cdv)).units + 1 < cLine := by omega
  have hu2 : (A.deeper (envOfC "law" (defScope s_law) s.heap.objs.size f cdv)).units + 2 < cLine := by omega
  exact (jss_cons (js_set (i := 1) S.nd rfl (by first | exact Or.inl rfl | exact Or.inr rfl) (je_fn G__law_town kb__law_town_1 kr__law_town_1 kl__law_town_1 (hr.mono (by decide)) rfl (takes_of rfl rfl rfl rfl) (ja_cons (jv 0) ja_nil) jk_nil))
    (jss_cons (js_setLc (i := 2) (own := [("_law_k", 9)]) rfl S.nd rfl rfl (sw_true rfl rfl rfl (by decide +kernel)) (ji_range1 rfl T.n_range (ja_cons je_int ja_nil)) (blkOk_by (own := [("_law_k", 9)]) (N := ["_law_script", "_law_town_here", "_law_worths", "_law_turn", "_law_bad", "_law_odd", "_law_meeting", "_law_ahead", "_law_thing", "_law_k"]) (sc := defScope s_law) (by decide +kernel)) (by decide) (fun _ _ _ _ _ => (jg_name S.nd rfl (by first | exact Or.inl rfl | exact Or.inr rfl))) (fun _ _ _ _ _ => jts_nil) (fun _ _ _ _ _ => (je_fn G__law_number kb__law_number_1 kr__law_number_1 kl__law_number_1 (hr.mono (by decide)) rfl takes0 (ja_cons (jv 1) ja_nil) jk_nil)))
    (jss_cons (js_for (passes_of rfl) rfl (ji_range1 rfl T.n_range (ja_cons je_int ja_nil)) (jg_name S.nd rfl (by first | exact Or.inl rfl | exact Or.inr rfl)) (jss_cons (js_set (i := 4) S.nd rfl (by first | exact Or.inl rfl | exact Or.inr rfl) (je_fn G__law_pick kb__law_pick_2 kr__law_pick_2 kl__law_pick_2 (hr.mono (by decide)) rfl (takes_of rfl rfl rfl rfl) (ja_cons (jv 1) (ja_cons (je_lst (ja_cons je_int (ja_cons (je_op op2_sub je_int je_int) (ja_cons je_bl (ja_cons je_non (ja_cons je_str ja_nil)))))) ja_nil)) jk_nil))
    (jss_cons (js_set (i := 5) S.nd rfl (by first | exact Or.inl rfl | exact Or.inr rfl) (je_fn G__law_pick kb__law_pick_2 kr__law_pick_2 kl__law_pick_2 (hr.mono (by decide)) rfl (takes_of rfl rfl rfl rfl) (ja_cons (jv 1) (ja_cons (je_lst (ja_cons (je_lst (ja_cons je_int ja_nil)) (ja_cons (je_lst (ja_cons je_int (ja_cons je_int ja_nil))) (ja_cons (je_lst (ja_cons je_int (ja_cons je_int ja_nil))) (ja_cons je_non (ja_cons je_int (ja_cons (je_lst (ja_cons je_bl ja_nil)) (ja_cons (je_lst (ja_cons je_int (ja_cons je_int (ja_cons je_int (ja_cons je_int ja_nil))))) (ja_cons je_str (ja_cons (je_lst (ja_cons (je_op op2_sub je_int je_int) ja_nil)) ja_nil)))))))))) ja_nil)) jk_nil))
    (jss_cons (js_if (jt_cmp (op2_ne hu) (je_lc (own := [("_law_thing", 8)]) rfl S.nd (ji_val (je_lst (ja_cons (je_lst ja_nil) (ja_cons je_non (ja_cons (je_callTy call_tupleM rfl T.n_tuple bt_tuple (ja_cons (jv 2) ja_nil)) (ja_cons (je_lst (ja_cons je_non ja_nil)) ja_nil)))))) (blkOk_by (own := [("_law_thing", 8)]) (N := ["_law_script", "_law_town_here", "_law_worths", "_law_turn", "_law_bad", "_law_odd", "_law_meeting", "_law_ahead", "_law_thing", "_law_k"]) (sc := defScope s_law) (by decide +kernel)) (by decide) (fun _ _ _ _ _ => (jg_name S.nd rfl (by first | exact Or.inl rfl | exact Or.inr rfl))) (fun _ _ _ _ _ => jts_nil) (fun _ _ _ _ _ => (je_fn G__law_made kb__law_made_3 kr__law_made_3 kl__law_made_3 (hr.mono (by decide)) rfl takes0 (ja_cons (jv 8) (ja_cons (jv 4) (ja_cons (jv 5) ja_nil))) jk_nil))) (je_op op2_mul (je_lst (ja_cons je_str ja_nil)) je_int) (nomark _)) (jss_one (js_ret je_bl)) jss_nil)
    (jss_cons (js_if (PW.pt (jw_or (jt_cmp (op2_ne hu) (je_fn G__law_made kb__law_made_3 kr__law_made_3 kl__law_made_3 (hr.mono (by decide)) rfl (takes_of rfl rfl rfl rfl) (ja_cons (jv 2) (ja_cons (jv 4) (ja_cons (jv 5) ja_nil))) jk_nil) je_str (nomark _)) (jw_or (jt_cmp (op2_ne hu) (je_fn G__law_made kb__law_made_3 kr__law_made_3 kl__law_made_3 (hr.mono (by decide)) rfl (takes_of rfl rfl rfl rfl) (ja_cons (jv 2) (ja_cons je_int (ja_cons (je_lst ja_nil) ja_nil))) jk_nil) je_str (nomark _)) (jw_or1 (jt_cmp (op2_ne hu) (je_fn G__law_made kb__law_made_3 kr__law_made_3 kl__law_made_3 (hr.mono (by decide)) rfl (takes_of rfl rfl rfl rfl) (ja_cons (je_op op2_mul (je_lst (ja_cons je_int ja_nil)) je_int) (ja_cons je_int (ja_cons (je_lst ja_nil) ja_nil))) jk_nil) je_str (nomark _)))))) (jss_one (js_ret je_bl)) jss_nil)
    (jss_one (js_if (PW.pt (jw_or (jt_cmp (op2_ne hu) (je_fn G__law_made kb__law_made_3 kr__law_made_3 kl__law_made_3 (hr.mono (by decide)) rfl (takes_of rfl rfl rfl rfl) (ja_cons (je_slice (jv 2) jo_none (jo_some je_int)) (ja_cons je_int (ja_cons (je_lst ja_nil) ja_nil))) jk_nil) je_str (nomark _)) (jw_or (jt_cmp (op2_ne hu) (je_fn G__law_made kb__law_made_3 kr__law_made_3 kl__law_made_3 (hr.mono (by decide)) rfl (takes_of rfl rfl rfl rfl) (ja_cons (jv 2) (ja_cons je_int (ja_cons (jv 5) ja_nil))) jk_nil) je_str (nomark _)) (jw_or1 (jt_cmp (op2_ne hu) (je_fn G__law_made kb__law_made_3 kr__law_made_3 kl__law_made_3 (hr.mono (by decide)) rfl (takes_of rfl rfl rfl rfl) (ja_cons (jv 2) (ja_cons je_int (ja_cons (je_lst (ja_cons je_int (ja_cons je_int ja_nil))) ja_nil))) jk_nil) je_str (nomark _)))))) (jss_one (js_ret je_bl)) jss_nil)))))))
    (jss_cons (js_if (PW.pt (jw_or (jt_cmp (op2_ne hu) (je_fn G__law_made kb__law_made_3 kr__law_made_3 kl__law_made_3 (hr.mono (by decide)) rfl (takes_of rfl rfl rfl rfl) (ja_cons (jv 2) (ja_cons je_int (ja_cons (je_tup (ja_cons je_int (ja_cons je_int (ja_cons je_int ja_nil)))) ja_nil))) jk_nil) je_str (nomark _)) (jw_or1 (jt_cmp (op2_ne hu) (je_fn G__law_made kb__law_made_3 kr__law_made_3 kl__law_made_3 (hr.mono (by decide)) rfl (takes_of rfl rfl rfl rfl) (ja_cons (je_op op2_mul (je_lst (ja_cons je_int ja_nil)) je_int) (ja_cons je_int (ja_cons (je_lst (ja_cons je_int ja_nil)) ja_nil))) jk_nil) je_str (nomark _))))) (jss_one (js_ret je_bl)) jss_nil)
    (jss_cons (js_set (i := 6) S.nd rfl (by first | exact Or.inl rfl | exact Or.inr rfl) (je_mk G_Meeting___init__ kb_Meeting___init___2_few_liars kr_Meeting___init___2_few_liars kl_Meeting___init___2_few_liars (hr.mono (by decide)) rfl (takes_of rfl rfl rfl rfl) (ja_cons (jv 2) ja_nil) (jk_cons je_int (jk_cons (je_lst (ja_cons je_int (ja_cons je_int ja_nil))) jk_nil))))
    (jss_cons (js_set (i := 7) S.nd rfl (by first | exact Or.inl rfl | exact Or.inr rfl) (je_mt0 G_Meeting_numbers_now kb_Meeting_numbers_now_1 kr_Meeting_numbers_now_1 kl_Meeting_numbers_now_1 (hr.mono (by decide)) (takes_of rfl rfl rfl rfl) (jv 6) jk_nil))
    (jss_cons (js_for (passes_of rfl) rfl (ji_val (je_lst (ja_cons je_non (ja_cons je_int (ja_cons (je_lst ja_nil) (ja_cons (je_disp1 (Nat.lt_of_succ_lt hu1) (je_tup (ja_cons je_int (ja_cons je_int ja_nil))) je_int) (ja_cons (je_disp1 (Nat.lt_of_succ_lt hu1) (je_tup (ja_cons je_int (ja_cons je_int ja_nil))) je_int) (ja_cons (je_disp1 (Nat.lt_of_succ_lt hu1) (je_tup (ja_cons je_int (ja_cons je_int ja_nil))) je_non) (ja_cons (je_disp1 (Nat.lt_of_succ_lt hu1) (je_tup (ja_cons je_int (ja_cons je_int ja_nil))) je_int) (ja_cons (je_disp1K je_int je_int) (ja_cons (je_disp1 (Nat.lt_of_succ_lt hu1) (je_tup (ja_cons je_int ja_nil)) je_int) (ja_cons (je_dispO (Nat.lt_of_succ_lt hu1) (je_tup (ja_cons je_bl (ja_cons je_int ja_nil))) je_int) ja_nil)))))))))))) (jg_name S.nd rfl (by first | exact Or.inl rfl | exact Or.inr rfl)) (jss_one (js_if (PW.pt (jw_or (jt_cmp (op2_ne hu) (je_fn G__law_asked kb__law_asked_3 kr__law_asked_3 kl__law_asked_3 (hr.mono (by decide)) rfl (takes_of rfl rfl rfl rfl) (ja_cons (jv 6) (ja_cons je_int (ja_cons (jv 8) ja_nil))) jk_nil) je_str (nomark _)) (jw_or (jt_cmp (op2_ne hu) (je_mt0 G_Meeting_numbers_now kb_Meeting_numbers_now_1 kr_Meeting_numbers_now_1 kl_Meeting_numbers_now_1 (hr.mono (by decide)) (takes_of rfl rfl rfl rfl) (jv 6) jk_nil) (jv 7) (nomark _)) (jw_or1 (jt_cmp (op2_ne hu) (je_mt0 G_Meeting_rounds kb_Meeting_rounds_1 kr_Meeting_rounds_1 kl_Meeting_rounds_1 (hr.mono (by decide)) (takes_of rfl rfl rfl rfl) (jv 6) jk_nil) je_int (nomark _)))))) (jss_one (js_ret je_bl)) jss_nil)))
    (jss_cons (js_for (passes_of rfl) rfl (ji_val (je_lst (ja_cons je_int (ja_cons je_int (ja_cons je_int (ja_cons (je_op op2_sub je_int je_int) (ja_cons je_bl (ja_cons je_non (ja_cons je_str ja_nil))))))))) (jg_name S.nd rfl (by first | exact Or.inl rfl | exact Or.inr rfl)) (jss_one (js_if (jt_cmp (op2_ne hu) (je_fn G__law_asked kb__law_asked_3 kr__law_asked_3 kl__law_asked_3 (hr.mono (by decide)) rfl (takes_of rfl rfl rfl rfl) (ja_cons (jv 6) (ja_cons je_int (ja_cons (jv 8) ja_nil))) jk_nil) (je_tup (ja_cons je_str (ja_cons (jv 8) ja_nil))) (nomark _)) (jss_one (js_ret je_bl)) jss_nil)))
    (jss_one (js_ret (je_and (je_cmp (op2_eq hu) (je_fn G__law_asked kb__law_asked_3 kr__law_asked_3 kl__law_asked_3 (hr.mono (by decide)) rfl (takes_of rfl rfl rfl rfl) (ja_cons (jv 6) (ja_cons je_int (ja_cons (je_disp2 (Nat.lt_of_succ_lt hu1) (je_tup (ja_cons je_int (ja_cons je_int ja_nil))) je_int (je_tup (ja_cons je_int (ja_cons je_int ja_nil))) je_int) ja_nil))) jk_nil) je_str (nomark _)) (je_one (je_cmp (op2_eq hu) (je_mt0 G_Meeting_rounds kb_Meeting_rounds_1 kr_Meeting_rounds_1 kl_Meeting_rounds_1 (hr.mono (by decide)) (takes_of rfl rfl rfl rfl) (jv 6) jk_nil) je_int (nomark _))))))))))))))
/-! ### NoHouse.__init__ -/
abbrev s_NoHouse___init__ : Stmt := inClass (top 7) 0
theorem sc_NoHouse___init__ : FnScope ["self", "house"] ["self", "house"] (defScope s_NoHouse___init__) := ⟨rfl, rfl, rfl, by decide +kernel, rfl, by decide +kernel, by decide +kernel⟩
/-! ### the end -/
theorem all_mk {P : Program} {w : World} {K : PySem.W.Frag} {h : Heap} {mg : Str → Option Value} {fa : Addr} (X : K.In h) (G : h.Ns mainGlobals mg) (hfa : mg "law" = some (.ref fa))
    {C_BadHouses C_BadLies C_BadNumber C_BadSaying C_BadTable C_BadWorths C_LiarError C_Meeting C_NoHouse C_NoLetter C_NotNow : Addr} {t_MOST t_MOST_FEW t_MOST_HOUSES : Tok}
    {z_Meeting___init___liars : Addr} {zd_Meeting___init___liars : Option Addr} {zn_Meeting___init___liars : Nat} {zs_Meeting___init___liars : Array (Option Value)}
    {nhn nhq : Str} {nhN : Addr} {nhb nhm : List Value} {nhs : List Str} {nhu : List Value} {nha : Bool} {nhc : Option Bool} {nhd : Option Addr} {nh0 nh1 nh2 nh3 nh5 : Option Value} {f_NoHouse___init__ : Addr} {oc_NoHouse___init__ kV_NoHouse___init__ dc_NoHouse___init__ pm_NoHouse___init__ cd_NoHouse___init__ ct_NoHouse___init__ : Value} {od_NoHouse___init__ an_NoHouse___init__ : Option Addr} {sl_NoHouse___init__ : Array (Option Value)}
    {f__law_town : Addr} {oc__law_town kV__law_town dc__law_town pm__law_town cd__law_town ct__law_town : Value} {od__law_town an__law_town : Option Addr} {sl__law_town : Array (Option Value)}
    {f__law_draw : Addr} {oc__law_draw kV__law_draw dc__law_draw pm__law_draw cd__law_draw ct__law_draw : Value} {od__law_draw an__law_draw : Option Addr} {sl__law_draw : Array (Option Value)}
    {f__law_pick : Addr} {oc__law_pick kV__law_pick dc__law_pick pm__law_pick cd__law_pick ct__law_pick : Value} {od__law_pick an__law_pick : Option Addr} {sl__law_pick : Array (Option Value)}
    {f__law_number : Addr} {oc__law_number kV__law_number dc__law_number pm__law_number cd__law_number ct__law_number : Value} {od__law_number an__law_number : Option Addr} {sl__law_number : Array (Option Value)}
    {f_is_whole : Addr} {oc_is_whole kV_is_whole dc_is_whole pm_is_whole cd_is_whole ct_is_whole : Value} {od_is_whole an_is_whole : Option Addr} {sl_is_whole : Array (Option Value)}
    {f_look_worths : Addr} {oc_look_worths dc_look_worths pm_look_worths cd_look_worths ct_look_worths : Value} {od_look_worths an_look_worths : Option Addr} {sl_look_worths : Array (Option Value)} {kD_look_worths : Addr} {tq_look_worths_least : Tok}
    {f_look_number : Addr} {oc_look_number kV_look_number dc_look_number pm_look_number cd_look_number ct_look_number : Value} {od_look_number an_look_number : Option Addr} {sl_look_number : Array (Option Value)}
    {f_look_liars : Addr} {oc_look_liars kV_look_liars dc_look_liars pm_look_liars cd_look_liars ct_look_liars : Value} {od_look_liars an_look_liars : Option Addr} {sl_look_liars : Array (Option Value)}
    {f_Meeting___init__ : Addr} {oc_Meeting___init__ dc_Meeting___init__ pm_Meeting___init__ cd_Meeting___init__ ct_Meeting___init__ : Value} {od_Meeting___init__ an_Meeting___init__ : Option Addr} {sl_Meeting___init__ : Array (Option Value)} {kD_Meeting___init__ : Addr}
    {f__law_refusal : Addr} {oc__law_refusal kV__law_refusal dc__law_refusal pm__law_refusal cd__law_refusal ct__law_refusal : Value} {od__law_refusal an__law_refusal : Option Addr} {sl__law_refusal : Array (Option Value)}
    {f__law_made : Addr} {oc__law_made kV__law_made dc__law_made pm__law_made cd__law_made ct__law_made : Value} {od__law_made an__law_made : Option Addr} {sl__law_made : Array (Option Value)}
    {f_Meeting_honest : Addr} {oc_Meeting_honest kV_Meeting_honest dc_Meeting_honest pm_Meeting_honest cd_Meeting_honest ct_Meeting_honest : Value} {od_Meeting_honest an_Meeting_honest : Option Addr} {sl_Meeting_honest : Array (Option Value)}
    {f_Meeting_numbers_now : Addr} {oc_Meeting_numbers_now kV_Meeting_numbers_now dc_Meeting_numbers_now pm_Meeting_numbers_now cd_Meeting_numbers_now ct_Meeting_numbers_now : Value} {od_Meeting_numbers_now an_Meeting_numbers_now : Option Addr} {sl_Meeting_numbers_now : Array (Option Value)}
    {f_look_lies : Addr} {oc_look_lies kV_look_lies dc_look_lies pm_look_lies cd_look_lies ct_look_lies : Value} {od_look_lies an_look_lies : Option Addr} {sl_look_lies : Array (Option Value)}
    {f_left_of : Addr} {oc_left_of kV_left_of dc_left_of pm_left_of cd_left_of ct_left_of : Value} {od_left_of an_left_of : Option Addr} {sl_left_of : Array (Option Value)}
    {f_middle_of : Addr} {oc_middle_of kV_middle_of dc_middle_of pm_middle_of cd_middle_of ct_middle_of : Value} {od_middle_of an_middle_of : Option Addr} {sl_middle_of : Array (Option Value)}
    {f_Meeting_heard : Addr} {oc_Meeting_heard kV_Meeting_heard dc_Meeting_heard pm_Meeting_heard cd_Meeting_heard ct_Meeting_heard : Value} {od_Meeting_heard an_Meeting_heard : Option Addr} {sl_Meeting_heard : Array (Option Value)}
    {f_Meeting_meet : Addr} {oc_Meeting_meet kV_Meeting_meet dc_Meeting_meet pm_Meeting_meet cd_Meeting_meet ct_Meeting_meet : Value} {od_Meeting_meet an_Meeting_meet : Option Addr} {sl_Meeting_meet : Array (Option Value)}
    {f_Meeting_number : Addr} {oc_Meeting_number kV_Meeting_number dc_Meeting_number pm_Meeting_number cd_Meeting_number ct_Meeting_number : Value} {od_Meeting_number an_Meeting_number : Option Addr} {sl_Meeting_number : Array (Option Value)}
    {f__law_asked : Addr} {oc__law_asked kV__law_asked dc__law_asked pm__law_asked cd__law_asked ct__law_asked : Value} {od__law_asked an__law_asked : Option Addr} {sl__law_asked : Array (Option Value)}
    {f_Meeting_rounds : Addr} {oc_Meeting_rounds kV_Meeting_rounds dc_Meeting_rounds pm_Meeting_rounds cd_Meeting_rounds ct_Meeting_rounds : Value} {od_Meeting_rounds an_Meeting_rounds : Option Addr} {sl_Meeting_rounds : Array (Option Value)}
    {f_law : Addr} {oc_law kV_law dc_law pm_law cd_law ct_law : Value} {od_law an_law : Option Addr} {sl_law : Array (Option Value)}
    (n_ValueError : PySem.W.nsIn K mainGlobals "ValueError" = some none)
    (n_all : PySem.W.nsIn K mainGlobals "all" = some none)
    (n_bool : PySem.W.nsIn K mainGlobals "bool" = some none)
    (n_dict : PySem.W.nsIn K mainGlobals "dict" = some none)
    (n_int : PySem.W.nsIn K mainGlobals "int" = some none)
    (n_isinstance : PySem.W.nsIn K mainGlobals "isinstance" = some none)
    (n_len : PySem.W.nsIn K mainGlobals "len" = some none)
    (n_list : PySem.W.nsIn K mainGlobals "list" = some none)
    (n_range : PySem.W.nsIn K mainGlobals "range" = some none)
    (n_set : PySem.W.nsIn K mainGlobals "set" = some none)
    (n_sorted : PySem.W.nsIn K mainGlobals "sorted" = some none)
    (n_tuple : PySem.W.nsIn K mainGlobals "tuple" = some none)
    (c_MOST : PySem.W.nsIn K mainGlobals "MOST" = some (some (.int 1000000 t_MOST)))
    (c_MOST_FEW : PySem.W.nsIn K mainGlobals "MOST_FEW" = some (some (.int 5 t_MOST_FEW)))
    (c_MOST_HOUSES : PySem.W.nsIn K mainGlobals "MOST_HOUSES" = some (some (.int 16 t_MOST_HOUSES)))
    (eg_BadHouses : PySem.W.nsIn K mainGlobals "BadHouses" = some (some (.ref C_BadHouses)))
    (ek_BadHouses : PySem.W.keepIn K (.ref C_BadHouses) = true)
    (ex_BadHouses : PySem.W.excIn K C_BadHouses [.type "ValueError", .type "Exception", .type "BaseException", .type "object"] "ValueError.__new__" = true)
    (eb_BadHouses : PySem.W.subIn K (.ref C_BadHouses) (.type "BaseException") = some true)
    (et_BadHouses : PySem.W.typeIn K (.ref C_BadHouses) = some (.type "type"))
    (eg_BadLies : PySem.W.nsIn K mainGlobals "BadLies" = some (some (.ref C_BadLies)))
    (ek_BadLies : PySem.W.keepIn K (.ref C_BadLies) = true)
    (ex_BadLies : PySem.W.excIn K C_BadLies [.type "ValueError", .type "Exception", .type "BaseException", .type "object"] "ValueError.__new__" = true)
    (eb_BadLies : PySem.W.subIn K (.ref C_BadLies) (.type "BaseException") = some true)
    (et_BadLies : PySem.W.typeIn K (.ref C_BadLies) = some (.type "type"))
    (eg_BadNumber : PySem.W.nsIn K mainGlobals "BadNumber" = some (some (.ref C_BadNumber)))
    (ek_BadNumber : PySem.W.keepIn K (.ref C_BadNumber) = true)
    (ex_BadNumber : PySem.W.excIn K C_BadNumber [.type "ValueError", .type "Exception", .type "BaseException", .type "object"] "ValueError.__new__" = true)
    (eb_BadNumber : PySem.W.subIn K (.ref C_BadNumber) (.type "BaseException") = some true)
    (et_BadNumber : PySem.W.typeIn K (.ref C_BadNumber) = some (.type "type"))
    (eg_BadWorths : PySem.W.nsIn K mainGlobals "BadWorths" = some (some (.ref C_BadWorths)))
    (ek_BadWorths : PySem.W.keepIn K (.ref C_BadWorths) = true)
    (ex_BadWorths : PySem.W.excIn K C_BadWorths [.type "ValueError", .type "Exception", .type "BaseException", .type "object"] "ValueError.__new__" = true)
    (eb_BadWorths : PySem.W.subIn K (.ref C_BadWorths) (.type "BaseException") = some true)
    (et_BadWorths : PySem.W.typeIn K (.ref C_BadWorths) = some (.type "type"))
    (eg_NoHouse : PySem.W.nsIn K mainGlobals "NoHouse" = some (some (.ref C_NoHouse)))
    (ek_NoHouse : PySem.W.keepIn K (.ref C_NoHouse) = true)
    (eb_NoHouse : PySem.W.subIn K (.ref C_NoHouse) (.type "BaseException") = some true)
    (et_NoHouse : PySem.W.typeIn K (.ref C_NoHouse) = some (.type "type"))
    (xC : K.lookup C_NoHouse = some (excClassObj nhn nhq C_NoHouse nhN nhb nhm true nhs nhu nha nhc nhd nh0 nh1 nh2 nh3 nh5 "ValueError.__new__"))
    (xB : PySem.HandSPX.refsVE nhm = true)
    (xS : PySem.W.findIn K (.ref C_NoHouse) "__setattr__" = some (some (.builtin "object.__setattr__")))
    (xI : PySem.W.findIn K (.ref C_NoHouse) "__init__" = some (some (.ref f_NoHouse___init__)))
    (xJ : PySem.W.typeIn K (.ref f_NoHouse___init__) = some (.type "function"))
    (xh_NoHouse : PySem.W.findIn K (.ref C_NoHouse) "house" = some none)
    (l_NoHouse___init__ : K.lookup f_NoHouse___init__ = some ⟨oc_NoHouse___init__, od_NoHouse___init__, .func (PySem.W.fnOf "__init__" "NoHouse.__init__" (defArgs s_NoHouse___init__) (defBody s_NoHouse___init__) (defScope s_NoHouse___init__) .none kV_NoHouse___init__ dc_NoHouse___init__ pm_NoHouse___init__ an_NoHouse___init__ cd_NoHouse___init__ ct_NoHouse___init__), sl_NoHouse___init__⟩)
    (d_NoHouse___init__ : PySem.W.codeIn K cd_NoHouse___init__ "NoHouse.__init__" = true)
    (k_NoHouse___init__ : PySem.W.keepIn K (.ref f_NoHouse___init__) = true)
    (yd_BadHouses : PySem.W.hasDictIn K C_BadHouses = true)
    (yt_BadHouses : PySem.W.typeIn K (.ref C_BadHouses) = some (.type "type"))
    (ys_BadHouses : PySem.W.subIn K (.ref C_BadHouses) (.ref C_BadHouses) = some true)
    (yd_BadLies : PySem.W.hasDictIn K C_BadLies = true)
    (yt_BadLies : PySem.W.typeIn K (.ref C_BadLies) = some (.type "type"))
    (ys_BadLies : PySem.W.subIn K (.ref C_BadLies) (.ref C_BadLies) = some true)
    (yd_BadNumber : PySem.W.hasDictIn K C_BadNumber = true)
    (yt_BadNumber : PySem.W.typeIn K (.ref C_BadNumber) = some (.type "type"))
    (ys_BadNumber : PySem.W.subIn K (.ref C_BadNumber) (.ref C_BadNumber) = some true)
    (eg_BadSaying : PySem.W.nsIn K mainGlobals "BadSaying" = some (some (.ref C_BadSaying)))
    (yd_BadSaying : PySem.W.hasDictIn K C_BadSaying = true)
    (yt_BadSaying : PySem.W.typeIn K (.ref C_BadSaying) = some (.type "type"))
    (ys_BadSaying : PySem.W.subIn K (.ref C_BadSaying) (.ref C_BadSaying) = some true)
    (eg_BadTable : PySem.W.nsIn K mainGlobals "BadTable" = some (some (.ref C_BadTable)))
    (yd_BadTable : PySem.W.hasDictIn K C_BadTable = true)
    (yt_BadTable : PySem.W.typeIn K (.ref C_BadTable) = some (.type "type"))
    (ys_BadTable : PySem.W.subIn K (.ref C_BadTable) (.ref C_BadTable) = some true)
    (yd_BadWorths : PySem.W.hasDictIn K C_BadWorths = true)
    (yt_BadWorths : PySem.W.typeIn K (.ref C_BadWorths) = some (.type "type"))
    (ys_BadWorths : PySem.W.subIn K (.ref C_BadWorths) (.ref C_BadWorths) = some true)
    (eg_LiarError : PySem.W.nsIn K mainGlobals "LiarError" = some (some (.ref C_LiarError)))
    (yd_LiarError : PySem.W.hasDictIn K C_LiarError = true)
    (yt_LiarError : PySem.W.typeIn K (.ref C_LiarError) = some (.type "type"))
    (ys_LiarError : PySem.W.subIn K (.ref C_LiarError) (.ref C_LiarError) = some true)
    (yb_LiarError : PySem.W.subIn K (.ref C_LiarError) (.type "BaseException") = some true)
    (eg_Meeting : PySem.W.nsIn K mainGlobals "Meeting" = some (some (.ref C_Meeting)))
    (og_Meeting : PySem.W.plainGet K C_Meeting Str.empty = true)
    (oh_Meeting : PySem.W.hasDictIn K C_Meeting = true)
    (oo_Meeting : PySem.W.plainOver K C_Meeting = true)
    (os_Meeting : PySem.W.findIn K (.ref C_Meeting) "__setattr__" = some (some (.builtin "object.__setattr__")))
    (om_Meeting : PySem.W.makesIn K C_Meeting = true)
    (ok_Meeting : PySem.W.keepIn K (.ref C_Meeting) = true)
    (of_Meeting_count : PySem.W.findIn K (.ref C_Meeting) "count" = some none)
    (of_Meeting_few : PySem.W.findIn K (.ref C_Meeting) "few" = some none)
    (of_Meeting_liars : PySem.W.findIn K (.ref C_Meeting) "liars" = some none)
    (of_Meeting_numbers : PySem.W.findIn K (.ref C_Meeting) "numbers" = some none)
    (yd_NoHouse : PySem.W.hasDictIn K C_NoHouse = true)
    (yt_NoHouse : PySem.W.typeIn K (.ref C_NoHouse) = some (.type "type"))
    (ys_NoHouse : PySem.W.subIn K (.ref C_NoHouse) (.ref C_NoHouse) = some true)
    (yb_NoHouse : PySem.W.subIn K (.ref C_NoHouse) (.type "BaseException") = some true)
    (eg_NoLetter : PySem.W.nsIn K mainGlobals "NoLetter" = some (some (.ref C_NoLetter)))
    (yd_NoLetter : PySem.W.hasDictIn K C_NoLetter = true)
    (yt_NoLetter : PySem.W.typeIn K (.ref C_NoLetter) = some (.type "type"))
    (ys_NoLetter : PySem.W.subIn K (.ref C_NoLetter) (.ref C_NoLetter) = some true)
    (eg_NotNow : PySem.W.nsIn K mainGlobals "NotNow" = some (some (.ref C_NotNow)))
    (yd_NotNow : PySem.W.hasDictIn K C_NotNow = true)
    (yt_NotNow : PySem.W.typeIn K (.ref C_NotNow) = some (.type "type"))
    (ys_NotNow : PySem.W.subIn K (.ref C_NotNow) (.ref C_NotNow) = some true)
    (su_BadHouses_BadHouses : PySem.W.subIn K (.ref C_BadHouses) (.ref C_BadHouses) = some true)
    (su_BadHouses_BadLies : PySem.W.subIn K (.ref C_BadHouses) (.ref C_BadLies) = some false)
    (su_BadHouses_BadNumber : PySem.W.subIn K (.ref C_BadHouses) (.ref C_BadNumber) = some false)
    (su_BadHouses_BadSaying : PySem.W.subIn K (.ref C_BadHouses) (.ref C_BadSaying) = some false)
    (su_BadHouses_BadTable : PySem.W.subIn K (.ref C_BadHouses) (.ref C_BadTable) = some false)
    (su_BadHouses_BadWorths : PySem.W.subIn K (.ref C_BadHouses) (.ref C_BadWorths) = some false)
    (su_BadHouses_LiarError : PySem.W.subIn K (.ref C_BadHouses) (.ref C_LiarError) = some true)
    (su_BadHouses_NoHouse : PySem.W.subIn K (.ref C_BadHouses) (.ref C_NoHouse) = some false)
    (su_BadHouses_NoLetter : PySem.W.subIn K (.ref C_BadHouses) (.ref C_NoLetter) = some false)
    (su_BadHouses_NotNow : PySem.W.subIn K (.ref C_BadHouses) (.ref C_NotNow) = some false)
    (sb_BadHouses_ValueError : PySem.W.subIn K (.ref C_BadHouses) (.type "ValueError") = some true)
    (xg_BadHouses : PySem.W.findIn K (.ref C_BadHouses) "__getattribute__" = some (some (.builtin "BaseException.__getattribute__")))
    (xk_BadHouses : PySem.W.findIn K (.ref C_BadHouses) "__getattr__" = some none)
    (xd_BadHouses : PySem.W.hasDictIn K C_BadHouses = true)
    (xa_BadHouses : PySem.W.findIn K (.ref C_BadHouses) "__class__" = some (some (.builtin "object.__class__")))
    (xm_BadHouses : PySem.W.mroIn K C_BadHouses (.type "object") = some true)
    (xh_BadHouses : PySem.W.findIn K (.ref C_BadHouses) "house" = some none)
    (su_BadLies_BadHouses : PySem.W.subIn K (.ref C_BadLies) (.ref C_BadHouses) = some false)
    (su_BadLies_BadLies : PySem.W.subIn K (.ref C_BadLies) (.ref C_BadLies) = some true)
    (su_BadLies_BadNumber : PySem.W.subIn K (.ref C_BadLies) (.ref C_BadNumber) = some false)
    (su_BadLies_BadSaying : PySem.W.subIn K (.ref C_BadLies) (.ref C_BadSaying) = some false)
    (su_BadLies_BadTable : PySem.W.subIn K (.ref C_BadLies) (.ref C_BadTable) = some false)
    (su_BadLies_BadWorths : PySem.W.subIn K (.ref C_BadLies) (.ref C_BadWorths) = some false)
    (su_BadLies_LiarError : PySem.W.subIn K (.ref C_BadLies) (.ref C_LiarError) = some true)
    (su_BadLies_NoHouse : PySem.W.subIn K (.ref C_BadLies) (.ref C_NoHouse) = some false)
    (su_BadLies_NoLetter : PySem.W.subIn K (.ref C_BadLies) (.ref C_NoLetter) = some false)
    (su_BadLies_NotNow : PySem.W.subIn K (.ref C_BadLies) (.ref C_NotNow) = some false)
    (sb_BadLies_ValueError : PySem.W.subIn K (.ref C_BadLies) (.type "ValueError") = some true)
    (xg_BadLies : PySem.W.findIn K (.ref C_BadLies) "__getattribute__" = some (some (.builtin "BaseException.__getattribute__")))
    (xk_BadLies : PySem.W.findIn K (.ref C_BadLies) "__getattr__" = some none)
    (xd_BadLies : PySem.W.hasDictIn K C_BadLies = true)
    (xa_BadLies : PySem.W.findIn K (.ref C_BadLies) "__class__" = some (some (.builtin "object.__class__")))
    (xm_BadLies : PySem.W.mroIn K C_BadLies (.type "object") = some true)
    (xh_BadLies : PySem.W.findIn K (.ref C_BadLies) "house" = some none)
    (su_BadNumber_BadHouses : PySem.W.subIn K (.ref C_BadNumber) (.ref C_BadHouses) = some false)
    (su_BadNumber_BadLies : PySem.W.subIn K (.ref C_BadNumber) (.ref C_BadLies) = some false)
    (su_BadNumber_BadNumber : PySem.W.subIn K (.ref C_BadNumber) (.ref C_BadNumber) = some true)
    (su_BadNumber_BadSaying : PySem.W.subIn K (.ref C_BadNumber) (.ref C_BadSaying) = some false)
    (su_BadNumber_BadTable : PySem.W.subIn K (.ref C_BadNumber) (.ref C_BadTable) = some false)
    (su_BadNumber_BadWorths : PySem.W.subIn K (.ref C_BadNumber) (.ref C_BadWorths) = some false)
    (su_BadNumber_LiarError : PySem.W.subIn K (.ref C_BadNumber) (.ref C_LiarError) = some true)
    (su_BadNumber_NoHouse : PySem.W.subIn K (.ref C_BadNumber) (.ref C_NoHouse) = some false)
    (su_BadNumber_NoLetter : PySem.W.subIn K (.ref C_BadNumber) (.ref C_NoLetter) = some false)
    (su_BadNumber_NotNow : PySem.W.subIn K (.ref C_BadNumber) (.ref C_NotNow) = some false)
    (sb_BadNumber_ValueError : PySem.W.subIn K (.ref C_BadNumber) (.type "ValueError") = some true)
    (xg_BadNumber : PySem.W.findIn K (.ref C_BadNumber) "__getattribute__" = some (some (.builtin "BaseException.__getattribute__")))
    (xk_BadNumber : PySem.W.findIn K (.ref C_BadNumber) "__getattr__" = some none)
    (xd_BadNumber : PySem.W.hasDictIn K C_BadNumber = true)
    (xa_BadNumber : PySem.W.findIn K (.ref C_BadNumber) "__class__" = some (some (.builtin "object.__class__")))
    (xm_BadNumber : PySem.W.mroIn K C_BadNumber (.type "object") = some true)
    (xh_BadNumber : PySem.W.findIn K (.ref C_BadNumber) "house" = some none)
    (su_BadWorths_BadHouses : PySem.W.subIn K (.ref C_BadWorths) (.ref C_BadHouses) = some false)
    (su_BadWorths_BadLies : PySem.W.subIn K (.ref C_BadWorths) (.ref C_BadLies) = some false)
    (su_BadWorths_BadNumber : PySem.W.subIn K (.ref C_BadWorths) (.ref C_BadNumber) = some false)
    (su_BadWorths_BadSaying : PySem.W.subIn K (.ref C_BadWorths) (.ref C_BadSaying) = some false)
    (su_BadWorths_BadTable : PySem.W.subIn K (.ref C_BadWorths) (.ref C_BadTable) = some false)
    (su_BadWorths_BadWorths : PySem.W.subIn K (.ref C_BadWorths) (.ref C_BadWorths) = some true)
    (su_BadWorths_LiarError : PySem.W.subIn K (.ref C_BadWorths) (.ref C_LiarError) = some true)
    (su_BadWorths_NoHouse : PySem.W.subIn K (.ref C_BadWorths) (.ref C_NoHouse) = some false)
    (su_BadWorths_NoLetter : PySem.W.subIn K (.ref C_BadWorths) (.ref C_NoLetter) = some false)
    (su_BadWorths_NotNow : PySem.W.subIn K (.ref C_BadWorths) (.ref C_NotNow) = some false)
    (sb_BadWorths_ValueError : PySem.W.subIn K (.ref C_BadWorths) (.type "ValueError") = some true)
    (xg_BadWorths : PySem.W.findIn K (.ref C_BadWorths) "__getattribute__" = some (some (.builtin "BaseException.__getattribute__")))
    (xk_BadWorths : PySem.W.findIn K (.ref C_BadWorths) "__getattr__" = some none)
    (xd_BadWorths : PySem.W.hasDictIn K C_BadWorths = true)
    (xa_BadWorths : PySem.W.findIn K (.ref C_BadWorths) "__class__" = some (some (.builtin "object.__class__")))
    (xm_BadWorths : PySem.W.mroIn K C_BadWorths (.type "object") = some true)
    (xh_BadWorths : PySem.W.findIn K (.ref C_BadWorths) "house" = some none)
    (su_NoHouse_BadHouses : PySem.W.subIn K (.ref C_NoHouse) (.ref C_BadHouses) = some false)
    (su_NoHouse_BadLies : PySem.W.subIn K (.ref C_NoHouse) (.ref C_BadLies) = some false)
    (su_NoHouse_BadNumber : PySem.W.subIn K (.ref C_NoHouse) (.ref C_BadNumber) = some false)
    (su_NoHouse_BadSaying : PySem.W.subIn K (.ref C_NoHouse) (.ref C_BadSaying) = some false)
    (su_NoHouse_BadTable : PySem.W.subIn K (.ref C_NoHouse) (.ref C_BadTable) = some false)
    (su_NoHouse_BadWorths : PySem.W.subIn K (.ref C_NoHouse) (.ref C_BadWorths) = some false)
    (su_NoHouse_LiarError : PySem.W.subIn K (.ref C_NoHouse) (.ref C_LiarError) = some true)
    (su_NoHouse_NoHouse : PySem.W.subIn K (.ref C_NoHouse) (.ref C_NoHouse) = some true)
    (su_NoHouse_NoLetter : PySem.W.subIn K (.ref C_NoHouse) (.ref C_NoLetter) = some false)
    (su_NoHouse_NotNow : PySem.W.subIn K (.ref C_NoHouse) (.ref C_NotNow) = some false)
    (sb_NoHouse_ValueError : PySem.W.subIn K (.ref C_NoHouse) (.type "ValueError") = some true)
    (xg_NoHouse : PySem.W.findIn K (.ref C_NoHouse) "__getattribute__" = some (some (.builtin "BaseException.__getattribute__")))
    (xk_NoHouse : PySem.W.findIn K (.ref C_NoHouse) "__getattr__" = some none)
    (xd_NoHouse : PySem.W.hasDictIn K C_NoHouse = true)
    (xa_NoHouse : PySem.W.findIn K (.ref C_NoHouse) "__class__" = some (some (.builtin "object.__class__")))
    (xm_NoHouse : PySem.W.mroIn K C_NoHouse (.type "object") = some true)
    (xn : PySem.W.specialIn K (.builtin "object.__class__") "__get__" = some (some (.builtin "getset_descriptor.__get__")))
    (xt : PySem.W.takesIn K (.builtin "object.__class__") = some true)
    (a__law_town : PySem.W.nsIn K mainGlobals "_law_town" = some (some (.ref f__law_town)))
    (l__law_town : K.lookup f__law_town = some ⟨oc__law_town, od__law_town, .func (PySem.W.fnOf "_law_town" "_law_town" (defArgs s__law_town) (defBody s__law_town) (defScope s__law_town) .none kV__law_town dc__law_town pm__law_town an__law_town cd__law_town ct__law_town), sl__law_town⟩)
    (d__law_town : PySem.W.codeIn K cd__law_town "_law_town" = true)
    (k__law_town : PySem.W.keepIn K (.ref f__law_town) = true)
    (a__law_draw : PySem.W.nsIn K mainGlobals "_law_draw" = some (some (.ref f__law_draw)))
    (l__law_draw : K.lookup f__law_draw = some ⟨oc__law_draw, od__law_draw, .func (PySem.W.fnOf "_law_draw" "_law_draw" (defArgs s__law_draw) (defBody s__law_draw) (defScope s__law_draw) .none kV__law_draw dc__law_draw pm__law_draw an__law_draw cd__law_draw ct__law_draw), sl__law_draw⟩)
    (d__law_draw : PySem.W.codeIn K cd__law_draw "_law_draw" = true)
    (k__law_draw : PySem.W.keepIn K (.ref f__law_draw) = true)
    (a__law_pick : PySem.W.nsIn K mainGlobals "_law_pick" = some (some (.ref f__law_pick)))
    (l__law_pick : K.lookup f__law_pick = some ⟨oc__law_pick, od__law_pick, .func (PySem.W.fnOf "_law_pick" "_law_pick" (defArgs s__law_pick) (defBody s__law_pick) (defScope s__law_pick) .none kV__law_pick dc__law_pick pm__law_pick an__law_pick cd__law_pick ct__law_pick), sl__law_pick⟩)
    (d__law_pick : PySem.W.codeIn K cd__law_pick "_law_pick" = true)
    (k__law_pick : PySem.W.keepIn K (.ref f__law_pick) = true)
    (a__law_number : PySem.W.nsIn K mainGlobals "_law_number" = some (some (.ref f__law_number)))
    (l__law_number : K.lookup f__law_number = some ⟨oc__law_number, od__law_number, .func (PySem.W.fnOf "_law_number" "_law_number" (defArgs s__law_number) (defBody s__law_number) (defScope s__law_number) .none kV__law_number dc__law_number pm__law_number an__law_number cd__law_number ct__law_number), sl__law_number⟩)
    (d__law_number : PySem.W.codeIn K cd__law_number "_law_number" = true)
    (k__law_number : PySem.W.keepIn K (.ref f__law_number) = true)
    (a_is_whole : PySem.W.nsIn K mainGlobals "is_whole" = some (some (.ref f_is_whole)))
    (l_is_whole : K.lookup f_is_whole = some ⟨oc_is_whole, od_is_whole, .func (PySem.W.fnOf "is_whole" "is_whole" (defArgs s_is_whole) (defBody s_is_whole) (defScope s_is_whole) .none kV_is_whole dc_is_whole pm_is_whole an_is_whole cd_is_whole ct_is_whole), sl_is_whole⟩)
    (d_is_whole : PySem.W.codeIn K cd_is_whole "is_whole" = true)
    (k_is_whole : PySem.W.keepIn K (.ref f_is_whole) = true)
    (a_look_worths : PySem.W.nsIn K mainGlobals "look_worths" = some (some (.ref f_look_worths)))
    (l_look_worths : K.lookup f_look_worths = some ⟨oc_look_worths, od_look_worths, .func (PySem.W.fnOf "look_worths" "look_worths" (defArgs s_look_worths) (defBody s_look_worths) (defScope s_look_worths) .none (.ref kD_look_worths) dc_look_worths pm_look_worths an_look_worths cd_look_worths ct_look_worths), sl_look_worths⟩)
    (d_look_worths : PySem.W.codeIn K cd_look_worths "look_worths" = true)
    (k_look_worths : PySem.W.keepIn K (.ref f_look_worths) = true)
    (q_look_worths_least : PySem.W.nsIn K kD_look_worths "least" = some (some (.int 1 tq_look_worths_least)))
    (a_look_number : PySem.W.nsIn K mainGlobals "look_number" = some (some (.ref f_look_number)))
    (l_look_number : K.lookup f_look_number = some ⟨oc_look_number, od_look_number, .func (PySem.W.fnOf "look_number" "look_number" (defArgs s_look_number) (defBody s_look_number) (defScope s_look_number) .none kV_look_number dc_look_number pm_look_number an_look_number cd_look_number ct_look_number), sl_look_number⟩)
    (d_look_number : PySem.W.codeIn K cd_look_number "look_number" = true)
    (k_look_number : PySem.W.keepIn K (.ref f_look_number) = true)
    (a_look_liars : PySem.W.nsIn K mainGlobals "look_liars" = some (some (.ref f_look_liars)))
    (l_look_liars : K.lookup f_look_liars = some ⟨oc_look_liars, od_look_liars, .func (PySem.W.fnOf "look_liars" "look_liars" (defArgs s_look_liars) (defBody s_look_liars) (defScope s_look_liars) .none kV_look_liars dc_look_liars pm_look_liars an_look_liars cd_look_liars ct_look_liars), sl_look_liars⟩)
    (d_look_liars : PySem.W.codeIn K cd_look_liars "look_liars" = true)
    (k_look_liars : PySem.W.keepIn K (.ref f_look_liars) = true)
    (a_Meeting___init___Meeting : PySem.W.findIn K (.ref C_Meeting) "__init__" = some (some (.ref f_Meeting___init__)))
    (i_Meeting___init__ : PySem.W.isFn K (.ref f_Meeting___init__) = true)
    (l_Meeting___init__ : K.lookup f_Meeting___init__ = some ⟨oc_Meeting___init__, od_Meeting___init__, .func (PySem.W.fnOf "__init__" "Meeting.__init__" (defArgs s_Meeting___init__) (defBody s_Meeting___init__) (defScope s_Meeting___init__) .none (.ref kD_Meeting___init__) dc_Meeting___init__ pm_Meeting___init__ an_Meeting___init__ cd_Meeting___init__ ct_Meeting___init__), sl_Meeting___init__⟩)
    (d_Meeting___init__ : PySem.W.codeIn K cd_Meeting___init__ "Meeting.__init__" = true)
    (k_Meeting___init__ : PySem.W.keepIn K (.ref f_Meeting___init__) = true)
    (q_Meeting___init___liars : PySem.W.nsIn K kD_Meeting___init__ "liars" = some (some (.ref z_Meeting___init___liars)))
    (a__law_refusal : PySem.W.nsIn K mainGlobals "_law_refusal" = some (some (.ref f__law_refusal)))
    (l__law_refusal : K.lookup f__law_refusal = some ⟨oc__law_refusal, od__law_refusal, .func (PySem.W.fnOf "_law_refusal" "_law_refusal" (defArgs s__law_refusal) (defBody s__law_refusal) (defScope s__law_refusal) .none kV__law_refusal dc__law_refusal pm__law_refusal an__law_refusal cd__law_refusal ct__law_refusal), sl__law_refusal⟩)
    (d__law_refusal : PySem.W.codeIn K cd__law_refusal "_law_refusal" = true)
    (k__law_refusal : PySem.W.keepIn K (.ref f__law_refusal) = true)
    (a__law_made : PySem.W.nsIn K mainGlobals "_law_made" = some (some (.ref f__law_made)))
    (l__law_made : K.lookup f__law_made = some ⟨oc__law_made, od__law_made, .func (PySem.W.fnOf "_law_made" "_law_made" (defArgs s__law_made) (defBody s__law_made) (defScope s__law_made) .none kV__law_made dc__law_made pm__law_made an__law_made cd__law_made ct__law_made), sl__law_made⟩)
    (d__law_made : PySem.W.codeIn K cd__law_made "_law_made" = true)
    (k__law_made : PySem.W.keepIn K (.ref f__law_made) = true)
    (a_Meeting_honest_Meeting : PySem.W.findIn K (.ref C_Meeting) "honest" = some (some (.ref f_Meeting_honest)))
    (i_Meeting_honest : PySem.W.isFn K (.ref f_Meeting_honest) = true)
    (l_Meeting_honest : K.lookup f_Meeting_honest = some ⟨oc_Meeting_honest, od_Meeting_honest, .func (PySem.W.fnOf "honest" "Meeting.honest" (defArgs s_Meeting_honest) (defBody s_Meeting_honest) (defScope s_Meeting_honest) .none kV_Meeting_honest dc_Meeting_honest pm_Meeting_honest an_Meeting_honest cd_Meeting_honest ct_Meeting_honest), sl_Meeting_honest⟩)
    (d_Meeting_honest : PySem.W.codeIn K cd_Meeting_honest "Meeting.honest" = true)
    (k_Meeting_honest : PySem.W.keepIn K (.ref f_Meeting_honest) = true)
    (a_Meeting_numbers_now_Meeting : PySem.W.findIn K (.ref C_Meeting) "numbers_now" = some (some (.ref f_Meeting_numbers_now)))
    (i_Meeting_numbers_now : PySem.W.isFn K (.ref f_Meeting_numbers_now) = true)
    (l_Meeting_numbers_now : K.lookup f_Meeting_numbers_now = some ⟨oc_Meeting_numbers_now, od_Meeting_numbers_now, .func (PySem.W.fnOf "numbers_now" "Meeting.numbers_now" (defArgs s_Meeting_numbers_now) (defBody s_Meeting_numbers_now) (defScope s_Meeting_numbers_now) .none kV_Meeting_numbers_now dc_Meeting_numbers_now pm_Meeting_numbers_now an_Meeting_numbers_now cd_Meeting_numbers_now ct_Meeting_numbers_now), sl_Meeting_numbers_now⟩)
    (d_Meeting_numbers_now : PySem.W.codeIn K cd_Meeting_numbers_now "Meeting.numbers_now" = true)
    (k_Meeting_numbers_now : PySem.W.keepIn K (.ref f_Meeting_numbers_now) = true)
    (a_look_lies : PySem.W.nsIn K mainGlobals "look_lies" = some (some (.ref f_look_lies)))
    (l_look_lies : K.lookup f_look_lies = some ⟨oc_look_lies, od_look_lies, .func (PySem.W.fnOf "look_lies" "look_lies" (defArgs s_look_lies) (defBody s_look_lies) (defScope s_look_lies) .none kV_look_lies dc_look_lies pm_look_lies an_look_lies cd_look_lies ct_look_lies), sl_look_lies⟩)
    (d_look_lies : PySem.W.codeIn K cd_look_lies "look_lies" = true)
    (k_look_lies : PySem.W.keepIn K (.ref f_look_lies) = true)
    (a_left_of : PySem.W.nsIn K mainGlobals "left_of" = some (some (.ref f_left_of)))
    (l_left_of : K.lookup f_left_of = some ⟨oc_left_of, od_left_of, .func (PySem.W.fnOf "left_of" "left_of" (defArgs s_left_of) (defBody s_left_of) (defScope s_left_of) .none kV_left_of dc_left_of pm_left_of an_left_of cd_left_of ct_left_of), sl_left_of⟩)
    (d_left_of : PySem.W.codeIn K cd_left_of "left_of" = true)
    (k_left_of : PySem.W.keepIn K (.ref f_left_of) = true)
    (a_middle_of : PySem.W.nsIn K mainGlobals "middle_of" = some (some (.ref f_middle_of)))
    (l_middle_of : K.lookup f_middle_of = some ⟨oc_middle_of, od_middle_of, .func (PySem.W.fnOf "middle_of" "middle_of" (defArgs s_middle_of) (defBody s_middle_of) (defScope s_middle_of) .none kV_middle_of dc_middle_of pm_middle_of an_middle_of cd_middle_of ct_middle_of), sl_middle_of⟩)
    (d_middle_of : PySem.W.codeIn K cd_middle_of "middle_of" = true)
    (k_middle_of : PySem.W.keepIn K (.ref f_middle_of) = true)
    (a_Meeting_heard_Meeting : PySem.W.findIn K (.ref C_Meeting) "heard" = some (some (.ref f_Meeting_heard)))
    (i_Meeting_heard : PySem.W.isFn K (.ref f_Meeting_heard) = true)
    (l_Meeting_heard : K.lookup f_Meeting_heard = some ⟨oc_Meeting_heard, od_Meeting_heard, .func (PySem.W.fnOf "heard" "Meeting.heard" (defArgs s_Meeting_heard) (defBody s_Meeting_heard) (defScope s_Meeting_heard) .none kV_Meeting_heard dc_Meeting_heard pm_Meeting_heard an_Meeting_heard cd_Meeting_heard ct_Meeting_heard), sl_Meeting_heard⟩)
    (d_Meeting_heard : PySem.W.codeIn K cd_Meeting_heard "Meeting.heard" = true)
    (k_Meeting_heard : PySem.W.keepIn K (.ref f_Meeting_heard) = true)
    (a_Meeting_meet_Meeting : PySem.W.findIn K (.ref C_Meeting) "meet" = some (some (.ref f_Meeting_meet)))
    (i_Meeting_meet : PySem.W.isFn K (.ref f_Meeting_meet) = true)
    (l_Meeting_meet : K.lookup f_Meeting_meet = some ⟨oc_Meeting_meet, od_Meeting_meet, .func (PySem.W.fnOf "meet" "Meeting.meet" (defArgs s_Meeting_meet) (defBody s_Meeting_meet) (defScope s_Meeting_meet) .none kV_Meeting_meet dc_Meeting_meet pm_Meeting_meet an_Meeting_meet cd_Meeting_meet ct_Meeting_meet), sl_Meeting_meet⟩)
    (d_Meeting_meet : PySem.W.codeIn K cd_Meeting_meet "Meeting.meet" = true)
    (k_Meeting_meet : PySem.W.keepIn K (.ref f_Meeting_meet) = true)
    (a_Meeting_number_Meeting : PySem.W.findIn K (.ref C_Meeting) "number" = some (some (.ref f_Meeting_number)))
    (i_Meeting_number : PySem.W.isFn K (.ref f_Meeting_number) = true)
    (l_Meeting_number : K.lookup f_Meeting_number = some ⟨oc_Meeting_number, od_Meeting_number, .func (PySem.W.fnOf "number" "Meeting.number" (defArgs s_Meeting_number) (defBody s_Meeting_number) (defScope s_Meeting_number) .none kV_Meeting_number dc_Meeting_number pm_Meeting_number an_Meeting_number cd_Meeting_number ct_Meeting_number), sl_Meeting_number⟩)
    (d_Meeting_number : PySem.W.codeIn K cd_Meeting_number "Meeting.number" = true)
    (k_Meeting_number : PySem.W.keepIn K (.ref f_Meeting_number) = true)
    (a__law_asked : PySem.W.nsIn K mainGlobals "_law_asked" = some (some (.ref f__law_asked)))
    (l__law_asked : K.lookup f__law_asked = some ⟨oc__law_asked, od__law_asked, .func (PySem.W.fnOf "_law_asked" "_law_asked" (defArgs s__law_asked) (defBody s__law_asked) (defScope s__law_asked) .none kV__law_asked dc__law_asked pm__law_asked an__law_asked cd__law_asked ct__law_asked), sl__law_asked⟩)
    (d__law_asked : PySem.W.codeIn K cd__law_asked "_law_asked" = true)
    (k__law_asked : PySem.W.keepIn K (.ref f__law_asked) = true)
    (a_Meeting_rounds_Meeting : PySem.W.findIn K (.ref C_Meeting) "rounds" = some (some (.ref f_Meeting_rounds)))
    (i_Meeting_rounds : PySem.W.isFn K (.ref f_Meeting_rounds) = true)
    (l_Meeting_rounds : K.lookup f_Meeting_rounds = some ⟨oc_Meeting_rounds, od_Meeting_rounds, .func (PySem.W.fnOf "rounds" "Meeting.rounds" (defArgs s_Meeting_rounds) (defBody s_Meeting_rounds) (defScope s_Meeting_rounds) .none kV_Meeting_rounds dc_Meeting_rounds pm_Meeting_rounds an_Meeting_rounds cd_Meeting_rounds ct_Meeting_rounds), sl_Meeting_rounds⟩)
    (d_Meeting_rounds : PySem.W.codeIn K cd_Meeting_rounds "Meeting.rounds" = true)
    (k_Meeting_rounds : PySem.W.keepIn K (.ref f_Meeting_rounds) = true)
    (a_law : PySem.W.nsIn K mainGlobals "law" = some (some (.ref f_law)))
    (l_law : K.lookup f_law = some ⟨oc_law, od_law, .func (PySem.W.fnOf "law" "law" (defArgs s_law) (defBody s_law) (defScope s_law) .none kV_law dc_law pm_law an_law cd_law ct_law), sl_law⟩)
    (d_law : PySem.W.codeIn K cd_law "law" = true)
    (k_law : PySem.W.keepIn K (.ref f_law) = true)
    (zl_Meeting___init___liars : K.lookup z_Meeting___init___liars = some ⟨.type "tuple", zd_Meeting___init___liars, .seq #[] zn_Meeting___init___liars, zs_Meeting___init___liars⟩)
    : ∃ fd : FuncData, (∀ (s : Shared) (v : Value), BindsTo s fd ⟨[v], []⟩ [("_law_script", v)]) ∧ ∀ base : Heap, K.In base → base.Ns mainGlobals mg → ∃ cl, FnOk P w K mg base (L2.CX P w) 6 fa fd ["_law_script"] (spM K cl 1 M_law) := by
  have e := hfa.symm.trans (PySem.W.mg_of X G a_law)
  cases e
  obtain ⟨cl, hcl⟩ : ∃ cl : Str → Option Addr, cl = fun x => List.lookup x ([("BadHouses", C_BadHouses), ("BadLies", C_BadLies), ("BadNumber", C_BadNumber), ("BadWorths", C_BadWorths), ("NoHouse", C_NoHouse), ("Meeting", C_Meeting)] : List (Str × Addr)) := ⟨_, rfl⟩
  have ty_BadHouses : ClsT K cl (.ref C_BadHouses) ["BadHouses"] := ⟨fun c Ca hk h => by
    rw [hcl] at h
    revert hk
    refine look_all (P := fun c Ca => isE EXCS c = true → PySem.W.kitOne K (.ref Ca) (.ref C_BadHouses) = some (isE ["BadHouses"] c)) h fun p hp => ?_
    simp only [List.mem_cons, List.not_mem_nil, or_false] at hp
    rcases hp with rfl | rfl | rfl | rfl | rfl | rfl
    · exact fun _ => (kit_own yd_BadHouses yt_BadHouses ys_BadHouses su_BadHouses_BadHouses).trans (show some true = some (isE ["BadHouses"] "BadHouses") by decide)
    · exact fun _ => (kit_own yd_BadHouses yt_BadHouses ys_BadHouses su_BadLies_BadHouses).trans (show some false = some (isE ["BadHouses"] "BadLies") by decide)
    · exact fun _ => (kit_own yd_BadHouses yt_BadHouses ys_BadHouses su_BadNumber_BadHouses).trans (show some false = some (isE ["BadHouses"] "BadNumber") by decide)
    · exact fun _ => (kit_own yd_BadHouses yt_BadHouses ys_BadHouses su_BadWorths_BadHouses).trans (show some false = some (isE ["BadHouses"] "BadWorths") by decide)
    · exact fun _ => (kit_own yd_BadHouses yt_BadHouses ys_BadHouses su_NoHouse_BadHouses).trans (show some false = some (isE ["BadHouses"] "NoHouse") by decide)
    · exact fun z => absurd (show isE EXCS "Meeting" = true from z) (by decide)⟩
  have ty_BadLies : ClsT K cl (.ref C_BadLies) ["BadLies"] := ⟨fun c Ca hk h => by
    rw [hcl] at h
    revert hk
    refine look_all (P := fun c Ca => isE EXCS c = true → PySem.W.kitOne K (.ref Ca) (.ref C_BadLies) = some (isE ["BadLies"] c)) h fun p hp => ?_
    simp only [List.mem_cons, List.not_mem_nil, or_false] at hp
    rcases hp with rfl | rfl | rfl | rfl | rfl | rfl
    · exact fun _ => (kit_own yd_BadLies yt_BadLies ys_BadLies su_BadHouses_BadLies).trans (show some false = some (isE ["BadLies"] "BadHouses") by decide)
    · exact fun _ => (kit_own yd_BadLies yt_BadLies ys_BadLies su_BadLies_BadLies).trans (show some true = some (isE ["BadLies"] "BadLies") by decide)
    · exact fun _ => (kit_own yd_BadLies yt_BadLies ys_BadLies su_BadNumber_BadLies).trans (show some false = some (isE ["BadLies"] "BadNumber") by decide)
    · exact fun _ => (kit_own yd_BadLies yt_BadLies ys_BadLies su_BadWorths_BadLies).trans (show some false = some (isE ["BadLies"] "BadWorths") by decide)
    · exact fun _ => (kit_own yd_BadLies yt_BadLies ys_BadLies su_NoHouse_BadLies).trans (show some false = some (isE ["BadLies"] "NoHouse") by decide)
    · exact fun z => absurd (show isE EXCS "Meeting" = true from z) (by decide)⟩
  have ty_BadNumber : ClsT K cl (.ref C_BadNumber) ["BadNumber"] := ⟨fun c Ca hk h => by
    rw [hcl] at h
    revert hk
    refine look_all (P := fun c Ca => isE EXCS c = true → PySem.W.kitOne K (.ref Ca) (.ref C_BadNumber) = some (isE ["BadNumber"] c)) h fun p hp => ?_
    simp only [List.mem_cons, List.not_mem_nil, or_false] at hp
    rcases hp with rfl | rfl | rfl | rfl | rfl | rfl
    · exact fun _ => (kit_own yd_BadNumber yt_BadNumber ys_BadNumber su_BadHouses_BadNumber).trans (show some false = some (isE ["BadNumber"] "BadHouses") by decide)
    · exact fun _ => (kit_own yd_BadNumber yt_BadNumber ys_BadNumber su_BadLies_BadNumber).trans (show some false = some (isE ["BadNumber"] "BadLies") by decide)
    · exact fun _ => (kit_own yd_BadNumber yt_BadNumber ys_BadNumber su_BadNumber_BadNumber).trans (show some true = some (isE ["BadNumber"] "BadNumber") by decide)
    · exact fun _ => (kit_own yd_BadNumber yt_BadNumber ys_BadNumber su_BadWorths_BadNumber).trans (show some false = some (isE ["BadNumber"] "BadWorths") by decide)
    · exact fun _ => (kit_own yd_BadNumber yt_BadNumber ys_BadNumber su_NoHouse_BadNumber).trans (show some false = some (isE ["BadNumber"] "NoHouse") by decide)
    · exact fun z => absurd (show isE EXCS "Meeting" = true from z) (by decide)⟩
  have ty_BadSaying : ClsT K cl (.ref C_BadSaying) ["BadSaying"] := ⟨fun c Ca hk h => by
    rw [hcl] at h
    revert hk
    refine look_all (P := fun c Ca => isE EXCS c = true → PySem.W.kitOne K (.ref Ca) (.ref C_BadSaying) = some (isE ["BadSaying"] c)) h fun p hp => ?_
    simp only [List.mem_cons, List.not_mem_nil, or_false] at hp
    rcases hp with rfl | rfl | rfl | rfl | rfl | rfl
    · exact fun _ => (kit_own yd_BadSaying yt_BadSaying ys_BadSaying su_BadHouses_BadSaying).trans (show some false = some (isE ["BadSaying"] "BadHouses") by decide)
    · exact fun _ => (kit_own yd_BadSaying yt_BadSaying ys_BadSaying su_BadLies_BadSaying).trans (show some false = some (isE ["BadSaying"] "BadLies") by decide)
    · exact fun _ => (kit_own yd_BadSaying yt_BadSaying ys_BadSaying su_BadNumber_BadSaying).trans (show some false = some (isE ["BadSaying"] "BadNumber") by decide)
    · exact fun _ => (kit_own yd_BadSaying yt_BadSaying ys_BadSaying su_BadWorths_BadSaying).trans (show some false = some (isE ["BadSaying"] "BadWorths") by decide)
    · exact fun _ => (kit_own yd_BadSaying yt_BadSaying ys_BadSaying su_NoHouse_BadSaying).trans (show some false = some (isE ["BadSaying"] "NoHouse") by decide)
    · exact fun z => absurd (show isE EXCS "Meeting" = true from z) (by decide)⟩
  have ty_BadTable : ClsT K cl (.ref C_BadTable) ["BadTable"] := ⟨fun c Ca hk h => by
    rw [hcl] at h
    revert hk
    refine look_all (P := fun c Ca => isE EXCS c = true → PySem.W.kitOne K (.ref Ca) (.ref C_BadTable) = some (isE ["BadTable"] c)) h fun p hp => ?_
    simp only [List.mem_cons, List.not_mem_nil, or_false] at hp
    rcases hp with rfl | rfl | rfl | rfl | rfl | rfl
    · exact fun _ => (kit_own yd_BadTable yt_BadTable ys_BadTable su_BadHouses_BadTable).trans (show some false = some (isE ["BadTable"] "BadHouses") by decide)
    · exact fun _ => (kit_own yd_BadTable yt_BadTable ys_BadTable su_BadLies_BadTable).trans (show some false = some (isE ["BadTable"] "BadLies") by decide)
    · exact fun _ => (kit_own yd_BadTable yt_BadTable ys_BadTable su_BadNumber_BadTable).trans (show some false = some (isE ["BadTable"] "BadNumber") by decide)
    · exact fun _ => (kit_own yd_BadTable yt_BadTable ys_BadTable su_BadWorths_BadTable).trans (show some false = some (isE ["BadTable"] "BadWorths") by decide)
    · exact fun _ => (kit_own yd_BadTable yt_BadTable ys_BadTable su_NoHouse_BadTable).trans (show some false = some (isE ["BadTable"] "NoHouse") by decide)
    · exact fun z => absurd (show isE EXCS "Meeting" = true from z) (by decide)⟩
  have ty_BadWorths : ClsT K cl (.ref C_BadWorths) ["BadWorths"] := ⟨fun c Ca hk h => by
    rw [hcl] at h
    revert hk
    refine look_all (P := fun c Ca => isE EXCS c = true → PySem.W.kitOne K (.ref Ca) (.ref C_BadWorths) = some (isE ["BadWorths"] c)) h fun p hp => ?_
    simp only [List.mem_cons, List.not_mem_nil, or_false] at hp
    rcases hp with rfl | rfl | rfl | rfl | rfl | rfl
    · exact fun _ => (kit_own yd_BadWorths yt_BadWorths ys_BadWorths su_BadHouses_BadWorths).trans (show some false = some (isE ["BadWorths"] "BadHouses") by decide)
    · exact fun _ => (kit_own yd_BadWorths yt_BadWorths ys_BadWorths su_BadLies_BadWorths).trans (show some false = some (isE ["BadWorths"] "BadLies") by decide)
    · exact fun _ => (kit_own yd_BadWorths yt_BadWorths ys_BadWorths su_BadNumber_BadWorths).trans (show some false = some (isE ["BadWorths"] "BadNumber") by decide)
    · exact fun _ => (kit_own yd_BadWorths yt_BadWorths ys_BadWorths su_BadWorths_BadWorths).trans (show some true = some (isE ["BadWorths"] "BadWorths") by decide)
    · exact fun _ => (kit_own yd_BadWorths yt_BadWorths ys_BadWorths su_NoHouse_BadWorths).trans (show some false = some (isE ["BadWorths"] "NoHouse") by decide)
    · exact fun z => absurd (show isE EXCS "Meeting" = true from z) (by decide)⟩
  have ty_LiarError : ClsT K cl (.ref C_LiarError) ["BadNumber", "BadWorths", "BadLies", "BadHouses", "NoHouse", "NoLetter", "NotNow", "BadTable", "BadSaying", "LiarError"] := ⟨fun c Ca hk h => by
    rw [hcl] at h
    revert hk
    refine look_all (P := fun c Ca => isE EXCS c = true → PySem.W.kitOne K (.ref Ca) (.ref C_LiarError) = some (isE ["BadNumber", "BadWorths", "BadLies", "BadHouses", "NoHouse", "NoLetter", "NotNow", "BadTable", "BadSaying", "LiarError"] c)) h fun p hp => ?_
    simp only [List.mem_cons, List.not_mem_nil, or_false] at hp
    rcases hp with rfl | rfl | rfl | rfl | rfl | rfl
    · exact fun _ => (kit_own yd_LiarError yt_LiarError ys_LiarError su_BadHouses_LiarError).trans (show some true = some (isE ["BadNumber", "BadWorths", "BadLies", "BadHouses", "NoHouse", "NoLetter", "NotNow", "BadTable", "BadSaying", "LiarError"] "BadHouses") by decide)
    · exact fun _ => (kit_own yd_LiarError yt_LiarError ys_LiarError su_BadLies_LiarError).trans (show some true = some (isE ["BadNumber", "BadWorths", "BadLies", "BadHouses", "NoHouse", "NoLetter", "NotNow", "BadTable", "BadSaying", "LiarError"] "BadLies") by decide)
    · exact fun _ => (kit_own yd_LiarError yt_LiarError ys_LiarError su_BadNumber_LiarError).trans (show some true = some (isE ["BadNumber", "BadWorths", "BadLies", "BadHouses", "NoHouse", "NoLetter", "NotNow", "BadTable", "BadSaying", "LiarError"] "BadNumber") by decide)
    · exact fun _ => (kit_own yd_LiarError yt_LiarError ys_LiarError su_BadWorths_LiarError).trans (show some true = some (isE ["BadNumber", "BadWorths", "BadLies", "BadHouses", "NoHouse", "NoLetter", "NotNow", "BadTable", "BadSaying", "LiarError"] "BadWorths") by decide)
    · exact fun _ => (kit_own yd_LiarError yt_LiarError ys_LiarError su_NoHouse_LiarError).trans (show some true = some (isE ["BadNumber", "BadWorths", "BadLies", "BadHouses", "NoHouse", "NoLetter", "NotNow", "BadTable", "BadSaying", "LiarError"] "NoHouse") by decide)
    · exact fun z => absurd (show isE EXCS "Meeting" = true from z) (by decide)⟩
  have ty_NoHouse : ClsT K cl (.ref C_NoHouse) ["NoHouse"] := ⟨fun c Ca hk h => by
    rw [hcl] at h
    revert hk
    refine look_all (P := fun c Ca => isE EXCS c = true → PySem.W.kitOne K (.ref Ca) (.ref C_NoHouse) = some (isE ["NoHouse"] c)) h fun p hp => ?_
    simp only [List.mem_cons, List.not_mem_nil, or_false] at hp
    rcases hp with rfl | rfl | rfl | rfl | rfl | rfl
    · exact fun _ => (kit_own yd_NoHouse yt_NoHouse ys_NoHouse su_BadHouses_NoHouse).trans (show some false = some (isE ["NoHouse"] "BadHouses") by decide)
    · exact fun _ => (kit_own yd_NoHouse yt_NoHouse ys_NoHouse su_BadLies_NoHouse).trans (show some false = some (isE ["NoHouse"] "BadLies") by decide)
    · exact fun _ => (kit_own yd_NoHouse yt_NoHouse ys_NoHouse su_BadNumber_NoHouse).trans (show some false = some (isE ["NoHouse"] "BadNumber") by decide)
    · exact fun _ => (kit_own yd_NoHouse yt_NoHouse ys_NoHouse su_BadWorths_NoHouse).trans (show some false = some (isE ["NoHouse"] "BadWorths") by decide)
    · exact fun _ => (kit_own yd_NoHouse yt_NoHouse ys_NoHouse su_NoHouse_NoHouse).trans (show some true = some (isE ["NoHouse"] "NoHouse") by decide)
    · exact fun z => absurd (show isE EXCS "Meeting" = true from z) (by decide)⟩
  have ty_NoLetter : ClsT K cl (.ref C_NoLetter) ["NoLetter"] := ⟨fun c Ca hk h => by
    rw [hcl] at h
    revert hk
    refine look_all (P := fun c Ca => isE EXCS c = true → PySem.W.kitOne K (.ref Ca) (.ref C_NoLetter) = some (isE ["NoLetter"] c)) h fun p hp => ?_
    simp only [List.mem_cons, List.not_mem_nil, or_false] at hp
    rcases hp with rfl | rfl | rfl | rfl | rfl | rfl
    · exact fun _ => (kit_own yd_NoLetter yt_NoLetter ys_NoLetter su_BadHouses_NoLetter).trans (show some false = some (isE ["NoLetter"] "BadHouses") by decide)
    · exact fun _ => (kit_own yd_NoLetter yt_NoLetter ys_NoLetter su_BadLies_NoLetter).trans (show some false = some (isE ["NoLetter"] "BadLies") by decide)
    · exact fun _ => (kit_own yd_NoLetter yt_NoLetter ys_NoLetter su_BadNumber_NoLetter).trans (show some false = some (isE ["NoLetter"] "BadNumber") by decide)
    · exact fun _ => (kit_own yd_NoLetter yt_NoLetter ys_NoLetter su_BadWorths_NoLetter).trans (show some false = some (isE ["NoLetter"] "BadWorths") by decide)
    · exact fun _ => (kit_own yd_NoLetter yt_NoLetter ys_NoLetter su_NoHouse_NoLetter).trans (show some false = some (isE ["NoLetter"] "NoHouse") by decide)
    · exact fun z => absurd (show isE EXCS "Meeting" = true from z) (by decide)⟩
  have ty_NotNow : ClsT K cl (.ref C_NotNow) ["NotNow"] := ⟨fun c Ca hk h => by
    rw [hcl] at h
    revert hk
    refine look_all (P := fun c Ca => isE EXCS c = true → PySem.W.kitOne K (.ref Ca) (.ref C_NotNow) = some (isE ["NotNow"] c)) h fun p hp => ?_
    simp only [List.mem_cons, List.not_mem_nil, or_false] at hp
    rcases hp with rfl | rfl | rfl | rfl | rfl | rfl
    · exact fun _ => (kit_own yd_NotNow yt_NotNow ys_NotNow su_BadHouses_NotNow).trans (show some false = some (isE ["NotNow"] "BadHouses") by decide)
    · exact fun _ => (kit_own yd_NotNow yt_NotNow ys_NotNow su_BadLies_NotNow).trans (show some false = some (isE ["NotNow"] "BadLies") by decide)
    · exact fun _ => (kit_own yd_NotNow yt_NotNow ys_NotNow su_BadNumber_NotNow).trans (show some false = some (isE ["NotNow"] "BadNumber") by decide)
    · exact fun _ => (kit_own yd_NotNow yt_NotNow ys_NotNow su_BadWorths_NotNow).trans (show some false = some (isE ["NotNow"] "BadWorths") by decide)
    · exact fun _ => (kit_own yd_NotNow yt_NotNow ys_NotNow su_NoHouse_NotNow).trans (show some false = some (isE ["NotNow"] "NoHouse") by decide)
    · exact fun z => absurd (show isE EXCS "Meeting" = true from z) (by decide)⟩
  have tb_ValueError : ClsT K cl (.type "ValueError") ["BadNumber", "BadWorths", "BadLies", "BadHouses", "NoHouse", "NoLetter", "NotNow", "BadTable", "BadSaying", "LiarError"] := ⟨fun c Ca hk h => by
    rw [hcl] at h
    revert hk
    refine look_all (P := fun c Ca => isE EXCS c = true → PySem.W.kitOne K (.ref Ca) (.type "ValueError") = some (isE ["BadNumber", "BadWorths", "BadLies", "BadHouses", "NoHouse", "NoLetter", "NotNow", "BadTable", "BadSaying", "LiarError"] c)) h fun p hp => ?_
    simp only [List.mem_cons, List.not_mem_nil, or_false] at hp
    rcases hp with rfl | rfl | rfl | rfl | rfl | rfl
    · exact fun _ => (kit_blt (by decide +kernel) sb_BadHouses_ValueError).trans (show some true = some (isE ["BadNumber", "BadWorths", "BadLies", "BadHouses", "NoHouse", "NoLetter", "NotNow", "BadTable", "BadSaying", "LiarError"] "BadHouses") by decide)
    · exact fun _ => (kit_blt (by decide +kernel) sb_BadLies_ValueError).trans (show some true = some (isE ["BadNumber", "BadWorths", "BadLies", "BadHouses", "NoHouse", "NoLetter", "NotNow", "BadTable", "BadSaying", "LiarError"] "BadLies") by decide)
    · exact fun _ => (kit_blt (by decide +kernel) sb_BadNumber_ValueError).trans (show some true = some (isE ["BadNumber", "BadWorths", "BadLies", "BadHouses", "NoHouse", "NoLetter", "NotNow", "BadTable", "BadSaying", "LiarError"] "BadNumber") by decide)
    · exact fun _ => (kit_blt (by decide +kernel) sb_BadWorths_ValueError).trans (show some true = some (isE ["BadNumber", "BadWorths", "BadLies", "BadHouses", "NoHouse", "NoLetter", "NotNow", "BadTable", "BadSaying", "LiarError"] "BadWorths") by decide)
    · exact fun _ => (kit_blt (by decide +kernel) sb_NoHouse_ValueError).trans (show some true = some (isE ["BadNumber", "BadWorths", "BadLies", "BadHouses", "NoHouse", "NoLetter", "NotNow", "BadTable", "BadSaying", "LiarError"] "NoHouse") by decide)
    · exact fun z => absurd (show isE EXCS "Meeting" = true from z) (by decide)⟩
  have th_LiarError : HdT K cl (.ref C_LiarError) (isE ["BadNumber", "BadWorths", "BadLies", "BadHouses", "NoHouse", "NoLetter", "NotNow", "BadTable", "BadSaying", "LiarError"]) := ⟨fun c Ca hk h => by
    rw [hcl] at h
    revert hk
    refine look_all (P := fun c Ca => isE ["BadNumber", "BadWorths", "BadLies", "BadHouses", "NoHouse", "NoLetter", "NotNow", "BadTable", "BadSaying", "LiarError"] c = true → PySem.W.exmOne K (.ref Ca) (.ref C_LiarError) = some true) h fun p hp => ?_
    simp only [List.mem_cons, List.not_mem_nil, or_false] at hp
    rcases hp with rfl | rfl | rfl | rfl | rfl | rfl
    · exact fun _ => PySem.W.exm_ref yb_LiarError yd_LiarError yt_LiarError su_BadHouses_LiarError
    · exact fun _ => PySem.W.exm_ref yb_LiarError yd_LiarError yt_LiarError su_BadLies_LiarError
    · exact fun _ => PySem.W.exm_ref yb_LiarError yd_LiarError yt_LiarError su_BadNumber_LiarError
    · exact fun _ => PySem.W.exm_ref yb_LiarError yd_LiarError yt_LiarError su_BadWorths_LiarError
    · exact fun _ => PySem.W.exm_ref yb_LiarError yd_LiarError yt_LiarError su_NoHouse_LiarError
    · exact fun z => absurd (show isE ["BadNumber", "BadWorths", "BadLies", "BadHouses", "NoHouse", "NoLetter", "NotNow", "BadTable", "BadSaying", "LiarError"] "Meeting" = true from z) (by decide)⟩
  have tk_LiarError : HdB K cl (.ref C_LiarError) (isE ["BadNumber", "BadWorths", "BadLies", "BadHouses", "NoHouse", "NoLetter", "NotNow", "BadTable", "BadSaying", "LiarError"]) := ⟨fun c Ca hk h => by
    rw [hcl] at h
    revert hk
    refine look_all (P := fun c Ca => isE EXCS c = true → PySem.W.exmOne K (.ref Ca) (.ref C_LiarError) = some (isE ["BadNumber", "BadWorths", "BadLies", "BadHouses", "NoHouse", "NoLetter", "NotNow", "BadTable", "BadSaying", "LiarError"] c)) h fun p hp => ?_
    simp only [List.mem_cons, List.not_mem_nil, or_false] at hp
    rcases hp with rfl | rfl | rfl | rfl | rfl | rfl
    · exact fun _ => (PySem.W.exm_ref yb_LiarError yd_LiarError yt_LiarError su_BadHouses_LiarError).trans (show some true = some (isE ["BadNumber", "BadWorths", "BadLies", "BadHouses", "NoHouse", "NoLetter", "NotNow", "BadTable", "BadSaying", "LiarError"] "BadHouses") by decide)
    · exact fun _ => (PySem.W.exm_ref yb_LiarError yd_LiarError yt_LiarError su_BadLies_LiarError).trans (show some true = some (isE ["BadNumber", "BadWorths", "BadLies", "BadHouses", "NoHouse", "NoLetter", "NotNow", "BadTable", "BadSaying", "LiarError"] "BadLies") by decide)
    · exact fun _ => (PySem.W.exm_ref yb_LiarError yd_LiarError yt_LiarError su_BadNumber_LiarError).trans (show some true = some (isE ["BadNumber", "BadWorths", "BadLies", "BadHouses", "NoHouse", "NoLetter", "NotNow", "BadTable", "BadSaying", "LiarError"] "BadNumber") by decide)
    · exact fun _ => (PySem.W.exm_ref yb_LiarError yd_LiarError yt_LiarError su_BadWorths_LiarError).trans (show some true = some (isE ["BadNumber", "BadWorths", "BadLies", "BadHouses", "NoHouse", "NoLetter", "NotNow", "BadTable", "BadSaying", "LiarError"] "BadWorths") by decide)
    · exact fun _ => (PySem.W.exm_ref yb_LiarError yd_LiarError yt_LiarError su_NoHouse_LiarError).trans (show some true = some (isE ["BadNumber", "BadWorths", "BadLies", "BadHouses", "NoHouse", "NoLetter", "NotNow", "BadTable", "BadSaying", "LiarError"] "NoHouse") by decide)
    · exact fun z => absurd (show isE EXCS "Meeting" = true from z) (by decide)⟩
  have tk_NoHouse : HdB K cl (.ref C_NoHouse) (isE ["NoHouse"]) := ⟨fun c Ca hk h => by
    rw [hcl] at h
    revert hk
    refine look_all (P := fun c Ca => isE EXCS c = true → PySem.W.exmOne K (.ref Ca) (.ref C_NoHouse) = some (isE ["NoHouse"] c)) h fun p hp => ?_
    simp only [List.mem_cons, List.not_mem_nil, or_false] at hp
    rcases hp with rfl | rfl | rfl | rfl | rfl | rfl
    · exact fun _ => (PySem.W.exm_ref yb_NoHouse yd_NoHouse yt_NoHouse su_BadHouses_NoHouse).trans (show some false = some (isE ["NoHouse"] "BadHouses") by decide)
    · exact fun _ => (PySem.W.exm_ref yb_NoHouse yd_NoHouse yt_NoHouse su_BadLies_NoHouse).trans (show some false = some (isE ["NoHouse"] "BadLies") by decide)
    · exact fun _ => (PySem.W.exm_ref yb_NoHouse yd_NoHouse yt_NoHouse su_BadNumber_NoHouse).trans (show some false = some (isE ["NoHouse"] "BadNumber") by decide)
    · exact fun _ => (PySem.W.exm_ref yb_NoHouse yd_NoHouse yt_NoHouse su_BadWorths_NoHouse).trans (show some false = some (isE ["NoHouse"] "BadWorths") by decide)
    · exact fun _ => (PySem.W.exm_ref yb_NoHouse yd_NoHouse yt_NoHouse su_NoHouse_NoHouse).trans (show some true = some (isE ["NoHouse"] "NoHouse") by decide)
    · exact fun z => absurd (show isE EXCS "Meeting" = true from z) (by decide)⟩
  have txall : ExcAll K cl := ⟨fun c Ca hk h => by
    rw [hcl] at h
    revert hk
    refine look_all (P := fun c Ca => isE EXCS c = true → ExcC K Ca) h fun p hp => ?_
    simp only [List.mem_cons, List.not_mem_nil, or_false] at hp
    rcases hp with rfl | rfl | rfl | rfl | rfl | rfl
    · exact fun _ => ⟨xg_BadHouses, xk_BadHouses, eb_BadHouses, xd_BadHouses, xa_BadHouses, xn, xt, xm_BadHouses⟩
    · exact fun _ => ⟨xg_BadLies, xk_BadLies, eb_BadLies, xd_BadLies, xa_BadLies, xn, xt, xm_BadLies⟩
    · exact fun _ => ⟨xg_BadNumber, xk_BadNumber, eb_BadNumber, xd_BadNumber, xa_BadNumber, xn, xt, xm_BadNumber⟩
    · exact fun _ => ⟨xg_BadWorths, xk_BadWorths, eb_BadWorths, xd_BadWorths, xa_BadWorths, xn, xt, xm_BadWorths⟩
    · exact fun _ => ⟨xg_NoHouse, xk_NoHouse, eb_NoHouse, xd_NoHouse, xa_NoHouse, xn, xt, xm_NoHouse⟩
    · exact fun z => absurd (show isE EXCS "Meeting" = true from z) (by decide)⟩
  have txf : XfT K cl := ⟨fun c Ca hk h => by
    rw [hcl] at h
    revert hk
    refine look_all (P := fun c Ca => isE EXCS c = true → XfC K Ca ∧ PySem.W.findIn K (.ref Ca) "house" = some none) h fun p hp => ?_
    simp only [List.mem_cons, List.not_mem_nil, or_false] at hp
    rcases hp with rfl | rfl | rfl | rfl | rfl | rfl
    · exact fun _ => ⟨⟨xg_BadHouses, xk_BadHouses, eb_BadHouses, xd_BadHouses⟩, xh_BadHouses⟩
    · exact fun _ => ⟨⟨xg_BadLies, xk_BadLies, eb_BadLies, xd_BadLies⟩, xh_BadLies⟩
    · exact fun _ => ⟨⟨xg_BadNumber, xk_BadNumber, eb_BadNumber, xd_BadNumber⟩, xh_BadNumber⟩
    · exact fun _ => ⟨⟨xg_BadWorths, xk_BadWorths, eb_BadWorths, xd_BadWorths⟩, xh_BadWorths⟩
    · exact fun _ => ⟨⟨xg_NoHouse, xk_NoHouse, eb_NoHouse, xd_NoHouse⟩, xh_NoHouse⟩
    · exact fun z => absurd (show isE EXCS "Meeting" = true from z) (by decide)⟩
  have tf_count : FldT K cl ["Meeting"] "count" := ⟨fun c Ca hk h => by
    rw [hcl] at h
    revert hk
    refine look_all (P := fun c Ca => isE ["Meeting"] c = true → Cls K Ca ∧ NoAttr K Ca "count") h fun p hp => ?_
    simp only [List.mem_cons, List.not_mem_nil, or_false] at hp
    rcases hp with rfl | rfl | rfl | rfl | rfl | rfl
    · exact fun z => absurd (show isE ["Meeting"] "BadHouses" = true from z) (by decide)
    · exact fun z => absurd (show isE ["Meeting"] "BadLies" = true from z) (by decide)
    · exact fun z => absurd (show isE ["Meeting"] "BadNumber" = true from z) (by decide)
    · exact fun z => absurd (show isE ["Meeting"] "BadWorths" = true from z) (by decide)
    · exact fun z => absurd (show isE ["Meeting"] "NoHouse" = true from z) (by decide)
    · exact fun _ => ⟨⟨og_Meeting, oh_Meeting, oo_Meeting, os_Meeting⟩, of_Meeting_count⟩⟩
  have tf_few : FldT K cl ["Company", "Echo", "Meeting", "Post", "Pulse", "TimedPulse", "Track"] "few" := ⟨fun c Ca hk h => by
    rw [hcl] at h
    revert hk
    refine look_all (P := fun c Ca => isE ["Company", "Echo", "Meeting", "Post", "Pulse", "TimedPulse", "Track"] c = true → Cls K Ca ∧ NoAttr K Ca "few") h fun p hp => ?_
    simp only [List.mem_cons, List.not_mem_nil, or_false] at hp
    rcases hp with rfl | rfl | rfl | rfl | rfl | rfl
    · exact fun z => absurd (show isE ["Company", "Echo", "Meeting", "Post", "Pulse", "TimedPulse", "Track"] "BadHouses" = true from z) (by decide)
    · exact fun z => absurd (show isE ["Company", "Echo", "Meeting", "Post", "Pulse", "TimedPulse", "Track"] "BadLies" = true from z) (by decide)
    · exact fun z => absurd (show isE ["Company", "Echo", "Meeting", "Post", "Pulse", "TimedPulse", "Track"] "BadNumber" = true from z) (by decide)
    · exact fun z => absurd (show isE ["Company", "Echo", "Meeting", "Post", "Pulse", "TimedPulse", "Track"] "BadWorths" = true from z) (by decide)
    · exact fun z => absurd (show isE ["Company", "Echo", "Meeting", "Post", "Pulse", "TimedPulse", "Track"] "NoHouse" = true from z) (by decide)
    · exact fun _ => ⟨⟨og_Meeting, oh_Meeting, oo_Meeting, os_Meeting⟩, of_Meeting_few⟩⟩
  have tf_liars : FldT K cl ["Book", "Company", "Echo", "Meeting", "Post", "Pulse", "TimedPulse"] "liars" := ⟨fun c Ca hk h => by
    rw [hcl] at h
    revert hk
    refine look_all (P := fun c Ca => isE ["Book", "Company", "Echo", "Meeting", "Post", "Pulse", "TimedPulse"] c = true → Cls K Ca ∧ NoAttr K Ca "liars") h fun p hp => ?_
    simp only [List.mem_cons, List.not_mem_nil, or_false] at hp
    rcases hp with rfl | rfl | rfl | rfl | rfl | rfl
    · exact fun z => absurd (show isE ["Book", "Company", "Echo", "Meeting", "Post", "Pulse", "TimedPulse"] "BadHouses" = true from z) (by decide)
    · exact fun z => absurd (show isE ["Book", "Company", "Echo", "Meeting", "Post", "Pulse", "TimedPulse"] "BadLies" = true from z) (by decide)
    · exact fun z => absurd (show isE ["Book", "Company", "Echo", "Meeting", "Post", "Pulse", "TimedPulse"] "BadNumber" = true from z) (by decide)
    · exact fun z => absurd (show isE ["Book", "Company", "Echo", "Meeting", "Post", "Pulse", "TimedPulse"] "BadWorths" = true from z) (by decide)
    · exact fun z => absurd (show isE ["Book", "Company", "Echo", "Meeting", "Post", "Pulse", "TimedPulse"] "NoHouse" = true from z) (by decide)
    · exact fun _ => ⟨⟨og_Meeting, oh_Meeting, oo_Meeting, os_Meeting⟩, of_Meeting_liars⟩⟩
  have tf_numbers : FldT K cl ["Meeting"] "numbers" := ⟨fun c Ca hk h => by
    rw [hcl] at h
    revert hk
    refine look_all (P := fun c Ca => isE ["Meeting"] c = true → Cls K Ca ∧ NoAttr K Ca "numbers") h fun p hp => ?_
    simp only [List.mem_cons, List.not_mem_nil, or_false] at hp
    rcases hp with rfl | rfl | rfl | rfl | rfl | rfl
    · exact fun z => absurd (show isE ["Meeting"] "BadHouses" = true from z) (by decide)
    · exact fun z => absurd (show isE ["Meeting"] "BadLies" = true from z) (by decide)
    · exact fun z => absurd (show isE ["Meeting"] "BadNumber" = true from z) (by decide)
    · exact fun z => absurd (show isE ["Meeting"] "BadWorths" = true from z) (by decide)
    · exact fun z => absurd (show isE ["Meeting"] "NoHouse" = true from z) (by decide)
    · exact fun _ => ⟨⟨og_Meeting, oh_Meeting, oo_Meeting, os_Meeting⟩, of_Meeting_numbers⟩⟩
  let Z : Nat → Addr := fun k => [z_Meeting___init___liars].getD k 0
  have T : Tx K mg cl Z := ⟨PySem.W.mg_none_of X G n_ValueError, PySem.W.mg_none_of X G n_all, PySem.W.mg_none_of X G n_bool, PySem.W.mg_none_of X G n_dict, PySem.W.mg_none_of X G n_int, PySem.W.mg_none_of X G n_isinstance, PySem.W.mg_none_of X G n_len, PySem.W.mg_none_of X G n_list, PySem.W.mg_none_of X G n_range, PySem.W.mg_none_of X G n_set, PySem.W.mg_none_of X G n_sorted, PySem.W.mg_none_of X G n_tuple, ⟨_, PySem.W.mg_of X G c_MOST⟩, ⟨_, PySem.W.mg_of X G c_MOST_FEW⟩, ⟨_, PySem.W.mg_of X G c_MOST_HOUSES⟩, ⟨C_BadHouses, by rw [hcl]; rfl, PySem.W.mg_of X G eg_BadHouses, ek_BadHouses, ex_BadHouses, eb_BadHouses, et_BadHouses⟩, ⟨C_BadLies, by rw [hcl]; rfl, PySem.W.mg_of X G eg_BadLies, ek_BadLies, ex_BadLies, eb_BadLies, et_BadLies⟩, ⟨C_BadNumber, by rw [hcl]; rfl, PySem.W.mg_of X G eg_BadNumber, ek_BadNumber, ex_BadNumber, eb_BadNumber, et_BadNumber⟩, ⟨C_BadWorths, by rw [hcl]; rfl, PySem.W.mg_of X G eg_BadWorths, ek_BadWorths, ex_BadWorths, eb_BadWorths, et_BadWorths⟩, ⟨C_BadHouses, PySem.W.mg_of X G eg_BadHouses, ty_BadHouses⟩, ⟨C_BadLies, PySem.W.mg_of X G eg_BadLies, ty_BadLies⟩, ⟨C_BadNumber, PySem.W.mg_of X G eg_BadNumber, ty_BadNumber⟩, ⟨C_BadSaying, PySem.W.mg_of X G eg_BadSaying, ty_BadSaying⟩, ⟨C_BadTable, PySem.W.mg_of X G eg_BadTable, ty_BadTable⟩, ⟨C_BadWorths, PySem.W.mg_of X G eg_BadWorths, ty_BadWorths⟩, ⟨C_LiarError, PySem.W.mg_of X G eg_LiarError, ty_LiarError⟩, ⟨C_NoHouse, PySem.W.mg_of X G eg_NoHouse, ty_NoHouse⟩, ⟨C_NoLetter, PySem.W.mg_of X G eg_NoLetter, ty_NoLetter⟩, ⟨C_NotNow, PySem.W.mg_of X G eg_NotNow, ty_NotNow⟩, tb_ValueError, ⟨C_LiarError, PySem.W.mg_of X G eg_LiarError, th_LiarError⟩, ⟨C_LiarError, PySem.W.mg_of X G eg_LiarError, tk_LiarError⟩, ⟨C_NoHouse, PySem.W.mg_of X G eg_NoHouse, tk_NoHouse⟩, txall, txf, tf_count, tf_few, tf_liars, tf_numbers, kt_mk zl_Meeting___init___liars (by decide) .nil, trivial⟩
  have D__law_town := fund_mk (params := defArgs s__law_town) (body := defBody s__law_town) (scope := defScope s__law_town) (dvs := []) (kws := []) l__law_town d__law_town k__law_town (.inl ⟨rfl, rfl⟩) (.inl rfl)
  have D__law_draw := fund_mk (params := defArgs s__law_draw) (body := defBody s__law_draw) (scope := defScope s__law_draw) (dvs := []) (kws := []) l__law_draw d__law_draw k__law_draw (.inl ⟨rfl, rfl⟩) (.inl rfl)
  have D__law_pick := fund_mk (params := defArgs s__law_pick) (body := defBody s__law_pick) (scope := defScope s__law_pick) (dvs := []) (kws := []) l__law_pick d__law_pick k__law_pick (.inl ⟨rfl, rfl⟩) (.inl rfl)
  have D__law_number := fund_mk (params := defArgs s__law_number) (body := defBody s__law_number) (scope := defScope s__law_number) (dvs := []) (kws := []) l__law_number d__law_number k__law_number (.inl ⟨rfl, rfl⟩) (.inl rfl)
  have D_is_whole := fund_mk (params := defArgs s_is_whole) (body := defBody s_is_whole) (scope := defScope s_is_whole) (dvs := []) (kws := []) l_is_whole d_is_whole k_is_whole (.inl ⟨rfl, rfl⟩) (.inl rfl)
  have D_look_worths := fund_mk (params := defArgs s_look_worths) (body := defBody s_look_worths) (scope := defScope s_look_worths) (dvs := []) (kws := [("least", .int 1)]) l_look_worths d_look_worths k_look_worths (.inl ⟨rfl, rfl⟩) (.inr ⟨kD_look_worths, rfl, fun q hq => by rw [List.mem_singleton] at hq; subst hq; exact ⟨_, q_look_worths_least, ⟨_, rfl⟩⟩⟩)
  have D_look_number := fund_mk (params := defArgs s_look_number) (body := defBody s_look_number) (scope := defScope s_look_number) (dvs := []) (kws := []) l_look_number d_look_number k_look_number (.inl ⟨rfl, rfl⟩) (.inl rfl)
  have D_look_liars := fund_mk (params := defArgs s_look_liars) (body := defBody s_look_liars) (scope := defScope s_look_liars) (dvs := []) (kws := []) l_look_liars d_look_liars k_look_liars (.inl ⟨rfl, rfl⟩) (.inl rfl)
  have D_Meeting___init__ := fund_mk (params := defArgs s_Meeting___init__) (body := defBody s_Meeting___init__) (scope := defScope s_Meeting___init__) (dvs := []) (kws := [("liars", .ref (Z 0))]) l_Meeting___init__ d_Meeting___init__ k_Meeting___init__ (.inl ⟨rfl, rfl⟩) (.inr ⟨kD_Meeting___init__, rfl, fun q hq => by rw [List.mem_singleton] at hq; subst hq; exact ⟨_, q_Meeting___init___liars, rfl⟩⟩)
  have D__law_refusal := fund_mk (params := defArgs s__law_refusal) (body := defBody s__law_refusal) (scope := defScope s__law_refusal) (dvs := []) (kws := []) l__law_refusal d__law_refusal k__law_refusal (.inl ⟨rfl, rfl⟩) (.inl rfl)
  have D__law_made := fund_mk (params := defArgs s__law_made) (body := defBody s__law_made) (scope := defScope s__law_made) (dvs := []) (kws := []) l__law_made d__law_made k__law_made (.inl ⟨rfl, rfl⟩) (.inl rfl)
  have D_Meeting_honest := fund_mk (params := defArgs s_Meeting_honest) (body := defBody s_Meeting_honest) (scope := defScope s_Meeting_honest) (dvs := []) (kws := []) l_Meeting_honest d_Meeting_honest k_Meeting_honest (.inl ⟨rfl, rfl⟩) (.inl rfl)
  have D_Meeting_numbers_now := fund_mk (params := defArgs s_Meeting_numbers_now) (body := defBody s_Meeting_numbers_now) (scope := defScope s_Meeting_numbers_now) (dvs := []) (kws := []) l_Meeting_numbers_now d_Meeting_numbers_now k_Meeting_numbers_now (.inl ⟨rfl, rfl⟩) (.inl rfl)
  have D_look_lies := fund_mk (params := defArgs s_look_lies) (body := defBody s_look_lies) (scope := defScope s_look_lies) (dvs := []) (kws := []) l_look_lies d_look_lies k_look_lies (.inl ⟨rfl, rfl⟩) (.inl rfl)
  have D_left_of := fund_mk (params := defArgs s_left_of) (body := defBody s_left_of) (scope := defScope s_left_of) (dvs := []) (kws := []) l_left_of d_left_of k_left_of (.inl ⟨rfl, rfl⟩) (.inl rfl)
  have D_middle_of := fund_mk (params := defArgs s_middle_of) (body := defBody s_middle_of) (scope := defScope s_middle_of) (dvs := []) (kws := []) l_middle_of d_middle_of k_middle_of (.inl ⟨rfl, rfl⟩) (.inl rfl)
  have D_Meeting_heard := fund_mk (params := defArgs s_Meeting_heard) (body := defBody s_Meeting_heard) (scope := defScope s_Meeting_heard) (dvs := []) (kws := []) l_Meeting_heard d_Meeting_heard k_Meeting_heard (.inl ⟨rfl, rfl⟩) (.inl rfl)
  have D_Meeting_meet := fund_mk (params := defArgs s_Meeting_meet) (body := defBody s_Meeting_meet) (scope := defScope s_Meeting_meet) (dvs := []) (kws := []) l_Meeting_meet d_Meeting_meet k_Meeting_meet (.inl ⟨rfl, rfl⟩) (.inl rfl)
  have D_Meeting_number := fund_mk (params := defArgs s_Meeting_number) (body := defBody s_Meeting_number) (scope := defScope s_Meeting_number) (dvs := []) (kws := []) l_Meeting_number d_Meeting_number k_Meeting_number (.inl ⟨rfl, rfl⟩) (.inl rfl)
  have D__law_asked := fund_mk (params := defArgs s__law_asked) (body := defBody s__law_asked) (scope := defScope s__law_asked) (dvs := []) (kws := []) l__law_asked d__law_asked k__law_asked (.inl ⟨rfl, rfl⟩) (.inl rfl)
  have D_Meeting_rounds := fund_mk (params := defArgs s_Meeting_rounds) (body := defBody s_Meeting_rounds) (scope := defScope s_Meeting_rounds) (dvs := []) (kws := []) l_Meeting_rounds d_Meeting_rounds k_Meeting_rounds (.inl ⟨rfl, rfl⟩) (.inl rfl)
  have D_law := fund_mk (params := defArgs s_law) (body := defBody s_law) (scope := defScope s_law) (dvs := []) (kws := []) l_law d_law k_law (.inl ⟨rfl, rfl⟩) (.inl rfl)
  have D_NoHouse___init__ := fund_mk (params := defArgs s_NoHouse___init__) (body := defBody s_NoHouse___init__) (scope := defScope s_NoHouse___init__) (dvs := []) (kws := []) l_NoHouse___init__ d_NoHouse___init__ k_NoHouse___init__ (.inl ⟨rfl, rfl⟩) (.inl rfl)
  refine ⟨_, fun s v => D_law.bindsA (ps := ["_law_script"]) (fun _ _ _ _ _ _ us hl => match us, hl with | [_], _ => rfl) s [v] rfl, fun base _ _ => ⟨cl, ?_⟩⟩
  have GN : NhAt P w K mg base cl := ⟨C_NoHouse, f_NoHouse___init__, _, by rw [hcl]; rfl, PySem.W.mg_of X G eg_NoHouse, ⟨⟨_, _, _, _, _, _, _, _, _, _, _, _, _, _, _, xC, xB⟩, xS, eb_NoHouse, et_NoHouse, ek_NoHouse⟩, xI, xJ, xh_NoHouse, nh_ok D_NoHouse___init__ sc_NoHouse___init__ rfl rfl, fun s us _ hl => by rw [List.append_nil] at hl ⊢; exact D_NoHouse___init__.bindsA (ps := ["self", "house"]) (fun _ _ _ _ _ _ us hl => match us, hl with | [_, _], _ => rfl) s us hl⟩
  have G__law_town : At__law_town P w K mg base cl Z := ⟨f__law_town, _, PySem.W.mg_of X G a__law_town, k__law_town, D__law_town, ok__law_town D__law_town T ⟩
  have G__law_draw : At__law_draw P w K mg base cl Z := ⟨f__law_draw, _, PySem.W.mg_of X G a__law_draw, k__law_draw, D__law_draw, ok__law_draw D__law_draw T ⟩
  have G__law_pick : At__law_pick P w K mg base cl Z := ⟨f__law_pick, _, PySem.W.mg_of X G a__law_pick, k__law_pick, D__law_pick, ok__law_pick D__law_pick T G__law_draw⟩
  have G__law_number : At__law_number P w K mg base cl Z := ⟨f__law_number, _, PySem.W.mg_of X G a__law_number, k__law_number, D__law_number, ok__law_number D__law_number T G__law_pick G__law_draw⟩
  have G_is_whole : At_is_whole P w K mg base cl Z := ⟨f_is_whole, _, PySem.W.mg_of X G a_is_whole, k_is_whole, D_is_whole, ok_is_whole D_is_whole T ⟩
  have G_look_worths : At_look_worths P w K mg base cl Z := ⟨f_look_worths, _, PySem.W.mg_of X G a_look_worths, k_look_worths, D_look_worths, ok_look_worths D_look_worths T G_is_whole⟩
  have G_look_number : At_look_number P w K mg base cl Z := ⟨f_look_number, _, PySem.W.mg_of X G a_look_number, k_look_number, D_look_number, ok_look_number D_look_number T G_is_whole⟩
  have G_look_liars : At_look_liars P w K mg base cl Z := ⟨f_look_liars, _, PySem.W.mg_of X G a_look_liars, k_look_liars, D_look_liars, ok_look_liars D_look_liars T G_is_whole⟩
  have G_Meeting___init__ : At_Meeting___init__ P w K mg base cl Z := ⟨C_Meeting, f_Meeting___init__, _, by rw [hcl]; rfl, PySem.W.mg_of X G eg_Meeting, ⟨om_Meeting, a_Meeting___init___Meeting, i_Meeting___init__, ok_Meeting⟩, D_Meeting___init__, ok_Meeting___init__ D_Meeting___init__ T G_look_worths G_look_number G_look_liars⟩
  have G__law_refusal : At__law_refusal P w K mg base cl Z := ⟨f__law_refusal, _, PySem.W.mg_of X G a__law_refusal, k__law_refusal, D__law_refusal, ok__law_refusal D__law_refusal T ⟩
  have G__law_made : At__law_made P w K mg base cl Z := ⟨f__law_made, _, PySem.W.mg_of X G a__law_made, k__law_made, D__law_made, ok__law_made D__law_made T G_Meeting___init__ G__law_refusal⟩
  have tm_Meeting_honest : MthT K cl ["Meeting"] "honest" f_Meeting_honest := ⟨fun c Ca hk h => by
    rw [hcl] at h
    revert hk
    refine look_all (P := fun c Ca => isE ["Meeting"] c = true → Cls K Ca ∧ Meth K Ca "honest" f_Meeting_honest) h fun p hp => ?_
    simp only [List.mem_cons, List.not_mem_nil, or_false] at hp
    rcases hp with rfl | rfl | rfl | rfl | rfl | rfl
    · exact fun z => absurd (show isE ["Meeting"] "BadHouses" = true from z) (by decide)
    · exact fun z => absurd (show isE ["Meeting"] "BadLies" = true from z) (by decide)
    · exact fun z => absurd (show isE ["Meeting"] "BadNumber" = true from z) (by decide)
    · exact fun z => absurd (show isE ["Meeting"] "BadWorths" = true from z) (by decide)
    · exact fun z => absurd (show isE ["Meeting"] "NoHouse" = true from z) (by decide)
    · exact fun _ => ⟨⟨og_Meeting, oh_Meeting, oo_Meeting, os_Meeting⟩, ⟨a_Meeting_honest_Meeting, i_Meeting_honest, k_Meeting_honest⟩⟩⟩
  have G_Meeting_honest : At_Meeting_honest P w K mg base cl Z := ⟨f_Meeting_honest, _, tm_Meeting_honest, D_Meeting_honest, ok_Meeting_honest D_Meeting_honest T ⟩
  have tm_Meeting_numbers_now : MthT K cl ["Meeting"] "numbers_now" f_Meeting_numbers_now := ⟨fun c Ca hk h => by
    rw [hcl] at h
    revert hk
    refine look_all (P := fun c Ca => isE ["Meeting"] c = true → Cls K Ca ∧ Meth K Ca "numbers_now" f_Meeting_numbers_now) h fun p hp => ?_
    simp only [List.mem_cons, List.not_mem_nil, or_false] at hp
    rcases hp with rfl | rfl | rfl | rfl | rfl | rfl
    · exact fun z => absurd (show isE ["Meeting"] "BadHouses" = true from z) (by decide)
    · exact fun z => absurd (show isE ["Meeting"] "BadLies" = true from z) (by decide)
    · exact fun z => absurd (show isE ["Meeting"] "BadNumber" = true from z) (by decide)
    · exact fun z => absurd (show isE ["Meeting"] "BadWorths" = true from z) (by decide)
    · exact fun z => absurd (show isE ["Meeting"] "NoHouse" = true from z) (by decide)
    · exact fun _ => ⟨⟨og_Meeting, oh_Meeting, oo_Meeting, os_Meeting⟩, ⟨a_Meeting_numbers_now_Meeting, i_Meeting_numbers_now, k_Meeting_numbers_now⟩⟩⟩
  have G_Meeting_numbers_now : At_Meeting_numbers_now P w K mg base cl Z := ⟨f_Meeting_numbers_now, _, tm_Meeting_numbers_now, D_Meeting_numbers_now, ok_Meeting_numbers_now D_Meeting_numbers_now T G_Meeting_honest⟩
  have G_look_lies : At_look_lies P w K mg base cl Z := ⟨f_look_lies, _, PySem.W.mg_of X G a_look_lies, k_look_lies, D_look_lies, ok_look_lies D_look_lies T G_is_whole⟩
  have G_left_of : At_left_of P w K mg base cl Z := ⟨f_left_of, _, PySem.W.mg_of X G a_left_of, k_left_of, D_left_of, ok_left_of D_left_of T ⟩
  have G_middle_of : At_middle_of P w K mg base cl Z := ⟨f_middle_of, _, PySem.W.mg_of X G a_middle_of, k_middle_of, D_middle_of, ok_middle_of D_middle_of T G_left_of⟩
  have tm_Meeting_heard : MthT K cl ["Meeting"] "heard" f_Meeting_heard := ⟨fun c Ca hk h => by
    rw [hcl] at h
    revert hk
    refine look_all (P := fun c Ca => isE ["Meeting"] c = true → Cls K Ca ∧ Meth K Ca "heard" f_Meeting_heard) h fun p hp => ?_
    simp only [List.mem_cons, List.not_mem_nil, or_false] at hp
    rcases hp with rfl | rfl | rfl | rfl | rfl | rfl
    · exact fun z => absurd (show isE ["Meeting"] "BadHouses" = true from z) (by decide)
    · exact fun z => absurd (show isE ["Meeting"] "BadLies" = true from z) (by decide)
    · exact fun z => absurd (show isE ["Meeting"] "BadNumber" = true from z) (by decide)
    · exact fun z => absurd (show isE ["Meeting"] "BadWorths" = true from z) (by decide)
    · exact fun z => absurd (show isE ["Meeting"] "NoHouse" = true from z) (by decide)
    · exact fun _ => ⟨⟨og_Meeting, oh_Meeting, oo_Meeting, os_Meeting⟩, ⟨a_Meeting_heard_Meeting, i_Meeting_heard, k_Meeting_heard⟩⟩⟩
  have G_Meeting_heard : At_Meeting_heard P w K mg base cl Z := ⟨f_Meeting_heard, _, tm_Meeting_heard, D_Meeting_heard, ok_Meeting_heard D_Meeting_heard T ⟩
  have tm_Meeting_meet : MthT K cl ["Meeting"] "meet" f_Meeting_meet := ⟨fun c Ca hk h => by
    rw [hcl] at h
    revert hk
    refine look_all (P := fun c Ca => isE ["Meeting"] c = true → Cls K Ca ∧ Meth K Ca "meet" f_Meeting_meet) h fun p hp => ?_
    simp only [List.mem_cons, List.not_mem_nil, or_false] at hp
    rcases hp with rfl | rfl | rfl | rfl | rfl | rfl
    · exact fun z => absurd (show isE ["Meeting"] "BadHouses" = true from z) (by decide)
    · exact fun z => absurd (show isE ["Meeting"] "BadLies" = true from z) (by decide)
    · exact fun z => absurd (show isE ["Meeting"] "BadNumber" = true from z) (by decide)
    · exact fun z => absurd (show isE ["Meeting"] "BadWorths" = true from z) (by decide)
    · exact fun z => absurd (show isE ["Meeting"] "NoHouse" = true from z) (by decide)
    · exact fun _ => ⟨⟨og_Meeting, oh_Meeting, oo_Meeting, os_Meeting⟩, ⟨a_Meeting_meet_Meeting, i_Meeting_meet, k_Meeting_meet⟩⟩⟩
  have G_Meeting_meet : At_Meeting_meet P w K mg base cl Z := ⟨f_Meeting_meet, _, tm_Meeting_meet, D_Meeting_meet, ok_Meeting_meet D_Meeting_meet T G_look_lies G_Meeting_honest G_middle_of G_Meeting_heard⟩
  have tm_Meeting_number : MthT K cl ["Meeting"] "number" f_Meeting_number := ⟨fun c Ca hk h => by
    rw [hcl] at h
    revert hk
    refine look_all (P := fun c Ca => isE ["Meeting"] c = true → Cls K Ca ∧ Meth K Ca "number" f_Meeting_number) h fun p hp => ?_
    simp only [List.mem_cons, List.not_mem_nil, or_false] at hp
    rcases hp with rfl | rfl | rfl | rfl | rfl | rfl
    · exact fun z => absurd (show isE ["Meeting"] "BadHouses" = true from z) (by decide)
    · exact fun z => absurd (show isE ["Meeting"] "BadLies" = true from z) (by decide)
    · exact fun z => absurd (show isE ["Meeting"] "BadNumber" = true from z) (by decide)
    · exact fun z => absurd (show isE ["Meeting"] "BadWorths" = true from z) (by decide)
    · exact fun z => absurd (show isE ["Meeting"] "NoHouse" = true from z) (by decide)
    · exact fun _ => ⟨⟨og_Meeting, oh_Meeting, oo_Meeting, os_Meeting⟩, ⟨a_Meeting_number_Meeting, i_Meeting_number, k_Meeting_number⟩⟩⟩
  have G_Meeting_number : At_Meeting_number P w K mg base cl Z := ⟨f_Meeting_number, _, tm_Meeting_number, D_Meeting_number, ok_Meeting_number D_Meeting_number T G_is_whole GN⟩
  have G__law_asked : At__law_asked P w K mg base cl Z := ⟨f__law_asked, _, PySem.W.mg_of X G a__law_asked, k__law_asked, D__law_asked, ok__law_asked D__law_asked T G_Meeting_meet G_Meeting_number G__law_refusal⟩
  have tm_Meeting_rounds : MthT K cl ["Meeting"] "rounds" f_Meeting_rounds := ⟨fun c Ca hk h => by
    rw [hcl] at h
    revert hk
    refine look_all (P := fun c Ca => isE ["Meeting"] c = true → Cls K Ca ∧ Meth K Ca "rounds" f_Meeting_rounds) h fun p hp => ?_
    simp only [List.mem_cons, List.not_mem_nil, or_false] at hp
    rcases hp with rfl | rfl | rfl | rfl | rfl | rfl
    · exact fun z => absurd (show isE ["Meeting"] "BadHouses" = true from z) (by decide)
    · exact fun z => absurd (show isE ["Meeting"] "BadLies" = true from z) (by decide)
    · exact fun z => absurd (show isE ["Meeting"] "BadNumber" = true from z) (by decide)
    · exact fun z => absurd (show isE ["Meeting"] "BadWorths" = true from z) (by decide)
    · exact fun z => absurd (show isE ["Meeting"] "NoHouse" = true from z) (by decide)
    · exact fun _ => ⟨⟨og_Meeting, oh_Meeting, oo_Meeting, os_Meeting⟩, ⟨a_Meeting_rounds_Meeting, i_Meeting_rounds, k_Meeting_rounds⟩⟩⟩
  have G_Meeting_rounds : At_Meeting_rounds P w K mg base cl Z := ⟨f_Meeting_rounds, _, tm_Meeting_rounds, D_Meeting_rounds, ok_Meeting_rounds D_Meeting_rounds T ⟩
  exact ok_law D_law T G__law_town G__law_number G__law_pick G__law_made G_Meeting___init__ G_Meeting_numbers_now G__law_asked G_Meeting_rounds
end L2.Mi.Lw

open PySem PySem.W PyProof.Rows
set_option maxRecDepth 100000 in
set_option maxHeartbeats 0 in
theorem PySem.Challenge.cw_liarclocks_k08_meetings_refused_holds : PySem.Challenge.rw_liarclocks_k08_meetings_refused.Holds := by
  w_on; o_law; k_head; (case hw => w_witness2)
  k_fill
  refine L2.Mi.walk_good (l := PySem.Challenge.rw_liarclocks_k08_meetings_refused) (x := "_law_script") (k := 6) (M := L2.Mi.Lw.M_law) rfl rfl ⟨rfl, by decide, by decide⟩ (fun w h Y => PySem.W.kIn_of Y) ?F L2.Mi.Lw.good_law
  case F =>
    intro w mg fa h KX G hmg
    refine' L2.Mi.Lw.all_mk KX G hmg ?n_ValueError ?n_all ?n_bool ?n_dict ?n_int ?n_isinstance ?n_len ?n_list ?n_range ?n_set ?n_sorted ?n_tuple ?c_MOST ?c_MOST_FEW ?c_MOST_HOUSES ?eg_BadHouses ?ek_BadHouses ?ex_BadHouses ?eb_BadHouses ?et_BadHouses ?eg_BadLies ?ek_BadLies ?ex_BadLies ?eb_BadLies ?et_BadLies ?eg_BadNumber ?ek_BadNumber ?ex_BadNumber ?eb_BadNumber ?et_BadNumber ?eg_BadWorths ?ek_BadWorths ?ex_BadWorths ?eb_BadWorths ?et_BadWorths ?eg_NoHouse ?ek_NoHouse ?eb_NoHouse ?et_NoHouse ?xC ?xB ?xS ?xI ?xJ ?xh_NoHouse ?l_NoHouse___init__ ?d_NoHouse___init__ ?k_NoHouse___init__ ?yd_BadHouses ?yt_BadHouses ?ys_BadHouses ?yd_BadLies ?yt_BadLies ?ys_BadLies ?yd_BadNumber ?yt_BadNumber ?ys_BadNumber ?eg_BadSaying ?yd_BadSaying ?yt_BadSaying ?ys_BadSaying ?eg_BadTable ?yd_BadTable ?yt_BadTable ?ys_BadTable ?yd_BadWorths ?yt_BadWorths ?ys_BadWorths ?eg_LiarError ?yd_LiarError ?yt_LiarError ?ys_LiarError ?yb_LiarError ?eg_Meeting ?og_Meeting ?oh_Meeting ?oo_Meeting ?os_Meeting ?om_Meeting ?ok_Meeting ?of_Meeting_count ?of_Meeting_few ?of_Meeting_liars ?of_Meeting_numbers ?yd_NoHouse ?yt_NoHouse ?ys_NoHouse ?yb_NoHouse ?eg_NoLetter ?yd_NoLetter ?yt_NoLetter ?ys_NoLetter ?eg_NotNow ?yd_NotNow ?yt_NotNow ?ys_NotNow ?su_BadHouses_BadHouses ?su_BadHouses_BadLies ?su_BadHouses_BadNumber ?su_BadHouses_BadSaying ?su_BadHouses_BadTable ?su_BadHouses_BadWorths ?su_BadHouses_LiarError ?su_BadHouses_NoHouse ?su_BadHouses_NoLetter ?su_BadHouses_NotNow ?sb_BadHouses_ValueError ?xg_BadHouses ?xk_BadHouses ?xd_BadHouses ?xa_BadHouses ?xm_BadHouses ?xh_BadHouses ?su_BadLies_BadHouses ?su_BadLies_BadLies ?su_BadLies_BadNumber ?su_BadLies_BadSaying ?su_BadLies_BadTable ?su_BadLies_BadWorths ?su_BadLies_LiarError ?su_BadLies_NoHouse ?su_BadLies_NoLetter ?su_BadLies_NotNow ?sb_BadLies_ValueError ?xg_BadLies ?xk_BadLies ?xd_BadLies ?xa_BadLies ?xm_BadLies ?xh_BadLies ?su_BadNumber_BadHouses ?su_BadNumber_BadLies ?su_BadNumber_BadNumber ?su_BadNumber_BadSaying ?su_BadNumber_BadTable ?su_BadNumber_BadWorths ?su_BadNumber_LiarError ?su_BadNumber_NoHouse ?su_BadNumber_NoLetter ?su_BadNumber_NotNow ?sb_BadNumber_ValueError ?xg_BadNumber ?xk_BadNumber ?xd_BadNumber ?xa_BadNumber ?xm_BadNumber ?xh_BadNumber ?su_BadWorths_BadHouses ?su_BadWorths_BadLies ?su_BadWorths_BadNumber ?su_BadWorths_BadSaying ?su_BadWorths_BadTable ?su_BadWorths_BadWorths ?su_BadWorths_LiarError ?su_BadWorths_NoHouse ?su_BadWorths_NoLetter ?su_BadWorths_NotNow ?sb_BadWorths_ValueError ?xg_BadWorths ?xk_BadWorths ?xd_BadWorths ?xa_BadWorths ?xm_BadWorths ?xh_BadWorths ?su_NoHouse_BadHouses ?su_NoHouse_BadLies ?su_NoHouse_BadNumber ?su_NoHouse_BadSaying ?su_NoHouse_BadTable ?su_NoHouse_BadWorths ?su_NoHouse_LiarError ?su_NoHouse_NoHouse ?su_NoHouse_NoLetter ?su_NoHouse_NotNow ?sb_NoHouse_ValueError ?xg_NoHouse ?xk_NoHouse ?xd_NoHouse ?xa_NoHouse ?xm_NoHouse ?xn ?xt ?a__law_town ?l__law_town ?d__law_town ?k__law_town ?a__law_draw ?l__law_draw ?d__law_draw ?k__law_draw ?a__law_pick ?l__law_pick ?d__law_pick ?k__law_pick ?a__law_number ?l__law_number ?d__law_number ?k__law_number ?a_is_whole ?l_is_whole ?d_is_whole ?k_is_whole ?a_look_worths ?l_look_worths ?d_look_worths ?k_look_worths ?q_look_worths_least ?a_look_number ?l_look_number ?d_look_number ?k_look_number ?a_look_liars ?l_look_liars ?d_look_liars ?k_look_liars ?a_Meeting___init___Meeting ?i_Meeting___init__ ?l_Meeting___init__ ?d_Meeting___init__ ?k_Meeting___init__ ?q_Meeting___init___liars ?a__law_refusal ?l__law_refusal ?d__law_refusal ?k__law_refusal ?a__law_made ?l__law_made ?d__law_made ?k__law_made ?a_Meeting_honest_Meeting ?i_Meeting_honest ?l_Meeting_honest ?d_Meeting_honest ?k_Meeting_honest ?a_Meeting_numbers_now_Meeting ?i_Meeting_numbers_now ?l_Meeting_numbers_now ?d_Meeting_numbers_now ?k_Meeting_numbers_now ?a_look_lies ?l_look_lies ?d_look_lies ?k_look_lies ?a_left_of ?l_left_of ?d_left_of ?k_left_of ?a_middle_of ?l_middle_of ?d_middle_of ?k_middle_of ?a_Meeting_heard_Meeting ?i_Meeting_heard ?l_Meeting_heard ?d_Meeting_heard ?k_Meeting_heard ?a_Meeting_meet_Meeting ?i_Meeting_meet ?l_Meeting_meet ?d_Meeting_meet ?k_Meeting_meet ?a_Meeting_number_Meeting ?i_Meeting_number ?l_Meeting_number ?d_Meeting_number ?k_Meeting_number ?a__law_asked ?l__law_asked ?d__law_asked ?k__law_asked ?a_Meeting_rounds_Meeting ?i_Meeting_rounds ?l_Meeting_rounds ?d_Meeting_rounds ?k_Meeting_rounds ?a_law ?l_law ?d_law ?k_law ?zl_Meeting___init___liars
    (case n_ValueError => k_is)
    (case n_all => k_is)
    (case n_bool => k_is)
    (case n_dict => k_is)
    (case n_int => k_is)
    (case n_isinstance => k_is)
    (case n_len => k_is)
    (case n_list => k_is)
    (case n_range => k_is)
    (case n_set => k_is)
    (case n_sorted => k_is)
    (case n_tuple => k_is)
    (case c_MOST => k_is)
    (case c_MOST_FEW => k_is)
    (case c_MOST_HOUSES => k_is)
    (case eg_BadHouses => k_is)
    (case ek_BadHouses => k_is)
    (case ex_BadHouses => k_exc)
    (case eb_BadHouses => k_is)
    (case et_BadHouses => k_is)
    (case eg_BadLies => k_is)
    (case ek_BadLies => k_is)
    (case ex_BadLies => k_exc)
    (case eb_BadLies => k_is)
    (case et_BadLies => k_is)
    (case eg_BadNumber => k_is)
    (case ek_BadNumber => k_is)
    (case ex_BadNumber => k_exc)
    (case eb_BadNumber => k_is)
    (case et_BadNumber => k_is)
    (case eg_BadWorths => k_is)
    (case ek_BadWorths => k_is)
    (case ex_BadWorths => k_exc)
    (case eb_BadWorths => k_is)
    (case et_BadWorths => k_is)
    (case eg_NoHouse => k_is)
    (case ek_NoHouse => k_is)
    (case eb_NoHouse => k_is)
    (case et_NoHouse => k_is)
    (case xC => k_is)
    (case xB => decide +kernel)
    (case xS => k_is)
    (case xI => k_is)
    (case xJ => k_is)
    (case xh_NoHouse => k_is)
    (case l_NoHouse___init__ => k_is)
    (case d_NoHouse___init__ => k_is)
    (case k_NoHouse___init__ => k_is)
    (case yd_BadHouses => k_is)
    (case yt_BadHouses => k_is)
    (case ys_BadHouses => k_is)
    (case yd_BadLies => k_is)
    (case yt_BadLies => k_is)
    (case ys_BadLies => k_is)
    (case yd_BadNumber => k_is)
    (case yt_BadNumber => k_is)
    (case ys_BadNumber => k_is)
    (case eg_BadSaying => k_is)
    (case yd_BadSaying => k_is)
    (case yt_BadSaying => k_is)
    (case ys_BadSaying => k_is)
    (case eg_BadTable => k_is)
    (case yd_BadTable => k_is)
    (case yt_BadTable => k_is)
    (case ys_BadTable => k_is)
    (case yd_BadWorths => k_is)
    (case yt_BadWorths => k_is)
    (case ys_BadWorths => k_is)
    (case eg_LiarError => k_is)
    (case yd_LiarError => k_is)
    (case yt_LiarError => k_is)
    (case ys_LiarError => k_is)
    (case yb_LiarError => k_is)
    (case eg_Meeting => k_is)
    (case og_Meeting => k_is)
    (case oh_Meeting => k_is)
    (case oo_Meeting => k_is)
    (case os_Meeting => k_is)
    (case om_Meeting => k_is)
    (case ok_Meeting => k_is)
    (case of_Meeting_count => k_is)
    (case of_Meeting_few => k_is)
    (case of_Meeting_liars => k_is)
    (case of_Meeting_numbers => k_is)
    (case yd_NoHouse => k_is)
    (case yt_NoHouse => k_is)
    (case ys_NoHouse => k_is)
    (case yb_NoHouse => k_is)
    (case eg_NoLetter => k_is)
    (case yd_NoLetter => k_is)
    (case yt_NoLetter => k_is)
    (case ys_NoLetter => k_is)
    (case eg_NotNow => k_is)
    (case yd_NotNow => k_is)
    (case yt_NotNow => k_is)
    (case ys_NotNow => k_is)
    (case su_BadHouses_BadHouses => k_is)
    (case su_BadHouses_BadLies => k_is)
    (case su_BadHouses_BadNumber => k_is)
    (case su_BadHouses_BadSaying => k_is)
    (case su_BadHouses_BadTable => k_is)
    (case su_BadHouses_BadWorths => k_is)
    (case su_BadHouses_LiarError => k_is)
    (case su_BadHouses_NoHouse => k_is)
    (case su_BadHouses_NoLetter => k_is)
    (case su_BadHouses_NotNow => k_is)
    (case sb_BadHouses_ValueError => k_is)
    (case xg_BadHouses => k_is)
    (case xk_BadHouses => k_is)
    (case xd_BadHouses => k_is)
    (case xa_BadHouses => k_is)
    (case xm_BadHouses => k_is)
    (case xh_BadHouses => k_is)
    (case su_BadLies_BadHouses => k_is)
    (case su_BadLies_BadLies => k_is)
    (case su_BadLies_BadNumber => k_is)
    (case su_BadLies_BadSaying => k_is)
    (case su_BadLies_BadTable => k_is)
    (case su_BadLies_BadWorths => k_is)
    (case su_BadLies_LiarError => k_is)
    (case su_BadLies_NoHouse => k_is)
    (case su_BadLies_NoLetter => k_is)
    (case su_BadLies_NotNow => k_is)
    (case sb_BadLies_ValueError => k_is)
    (case xg_BadLies => k_is)
    (case xk_BadLies => k_is)
    (case xd_BadLies => k_is)
    (case xa_BadLies => k_is)
    (case xm_BadLies => k_is)
    (case xh_BadLies => k_is)
    (case su_BadNumber_BadHouses => k_is)
    (case su_BadNumber_BadLies => k_is)
    (case su_BadNumber_BadNumber => k_is)
    (case su_BadNumber_BadSaying => k_is)
    (case su_BadNumber_BadTable => k_is)
    (case su_BadNumber_BadWorths => k_is)
    (case su_BadNumber_LiarError => k_is)
    (case su_BadNumber_NoHouse => k_is)
    (case su_BadNumber_NoLetter => k_is)
    (case su_BadNumber_NotNow => k_is)
    (case sb_BadNumber_ValueError => k_is)
    (case xg_BadNumber => k_is)
    (case xk_BadNumber => k_is)
    (case xd_BadNumber => k_is)
    (case xa_BadNumber => k_is)
    (case xm_BadNumber => k_is)
    (case xh_BadNumber => k_is)
    (case su_BadWorths_BadHouses => k_is)
    (case su_BadWorths_BadLies => k_is)
    (case su_BadWorths_BadNumber => k_is)
    (case su_BadWorths_BadSaying => k_is)
    (case su_BadWorths_BadTable => k_is)
    (case su_BadWorths_BadWorths => k_is)
    (case su_BadWorths_LiarError => k_is)
    (case su_BadWorths_NoHouse => k_is)
    (case su_BadWorths_NoLetter => k_is)
    (case su_BadWorths_NotNow => k_is)
    (case sb_BadWorths_ValueError => k_is)
    (case xg_BadWorths => k_is)
    (case xk_BadWorths => k_is)
    (case xd_BadWorths => k_is)
    (case xa_BadWorths => k_is)
    (case xm_BadWorths => k_is)
    (case xh_BadWorths => k_is)
    (case su_NoHouse_BadHouses => k_is)
    (case su_NoHouse_BadLies => k_is)
    (case su_NoHouse_BadNumber => k_is)
    (case su_NoHouse_BadSaying => k_is)
    (case su_NoHouse_BadTable => k_is)
    (case su_NoHouse_BadWorths => k_is)
    (case su_NoHouse_LiarError => k_is)
    (case su_NoHouse_NoHouse => k_is)
    (case su_NoHouse_NoLetter => k_is)
    (case su_NoHouse_NotNow => k_is)
    (case sb_NoHouse_ValueError => k_is)
    (case xg_NoHouse => k_is)
    (case xk_NoHouse => k_is)
    (case xd_NoHouse => k_is)
    (case xa_NoHouse => k_is)
    (case xm_NoHouse => k_is)
    (case xn => k_is)
    (case xt => k_is)
    (case a__law_town => k_is)
    (case l__law_town => k_is)
    (case d__law_town => k_is)
    (case k__law_town => k_is)
    (case a__law_draw => k_is)
    (case l__law_draw => k_is)
    (case d__law_draw => k_is)
    (case k__law_draw => k_is)
    (case a__law_pick => k_is)
    (case l__law_pick => k_is)
    (case d__law_pick => k_is)
    (case k__law_pick => k_is)
    (case a__law_number => k_is)
    (case l__law_number => k_is)
    (case d__law_number => k_is)
    (case k__law_number => k_is)
    (case a_is_whole => k_is)
    (case l_is_whole => k_is)
    (case d_is_whole => k_is)
    (case k_is_whole => k_is)
    (case a_look_worths => k_is)
    (case l_look_worths => k_is)
    (case d_look_worths => k_is)
    (case k_look_worths => k_is)
    (case q_look_worths_least => k_is)
    (case a_look_number => k_is)
    (case l_look_number => k_is)
    (case d_look_number => k_is)
    (case k_look_number => k_is)
    (case a_look_liars => k_is)
    (case l_look_liars => k_is)
    (case d_look_liars => k_is)
    (case k_look_liars => k_is)
    (case a_Meeting___init___Meeting => k_is)
    (case i_Meeting___init__ => k_is)
    (case l_Meeting___init__ => k_is)
    (case d_Meeting___init__ => k_is)
    (case k_Meeting___init__ => k_is)
    (case q_Meeting___init___liars => k_is)
    (case a__law_refusal => k_is)
    (case l__law_refusal => k_is)
    (case d__law_refusal => k_is)
    (case k__law_refusal => k_is)
    (case a__law_made => k_is)
    (case l__law_made => k_is)
    (case d__law_made => k_is)
    (case k__law_made => k_is)
    (case a_Meeting_honest_Meeting => k_is)
    (case i_Meeting_honest => k_is)
    (case l_Meeting_honest => k_is)
    (case d_Meeting_honest => k_is)
    (case k_Meeting_honest => k_is)
    (case a_Meeting_numbers_now_Meeting => k_is)
    (case i_Meeting_numbers_now => k_is)
    (case l_Meeting_numbers_now => k_is)
    (case d_Meeting_numbers_now => k_is)
    (case k_Meeting_numbers_now => k_is)
    (case a_look_lies => k_is)
    (case l_look_lies => k_is)
    (case d_look_lies => k_is)
    (case k_look_lies => k_is)
    (case a_left_of => k_is)
    (case l_left_of => k_is)
    (case d_left_of => k_is)
    (case k_left_of => k_is)
    (case a_middle_of => k_is)
    (case l_middle_of => k_is)
    (case d_middle_of => k_is)
    (case k_middle_of => k_is)
    (case a_Meeting_heard_Meeting => k_is)
    (case i_Meeting_heard => k_is)
    (case l_Meeting_heard => k_is)
    (case d_Meeting_heard => k_is)
    (case k_Meeting_heard => k_is)
    (case a_Meeting_meet_Meeting => k_is)
    (case i_Meeting_meet => k_is)
    (case l_Meeting_meet => k_is)
    (case d_Meeting_meet => k_is)
    (case k_Meeting_meet => k_is)
    (case a_Meeting_number_Meeting => k_is)
    (case i_Meeting_number => k_is)
    (case l_Meeting_number => k_is)
    (case d_Meeting_number => k_is)
    (case k_Meeting_number => k_is)
    (case a__law_asked => k_is)
    (case l__law_asked => k_is)
    (case d__law_asked => k_is)
    (case k__law_asked => k_is)
    (case a_Meeting_rounds_Meeting => k_is)
    (case i_Meeting_rounds => k_is)
    (case l_Meeting_rounds => k_is)
    (case d_Meeting_rounds => k_is)
    (case k_Meeting_rounds => k_is)
    (case a_law => k_is)
    (case l_law => k_is)
    (case d_law => k_is)
    (case k_law => k_is)
    (case zl_Meeting___init___liars => k_is)

