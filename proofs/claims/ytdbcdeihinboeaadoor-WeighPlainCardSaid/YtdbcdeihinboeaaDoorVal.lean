/- Values under keys, spans and batches in plain Lean: texts, orders, own forms, weights. No condition but those typed. -/
import Derived.Test.YtdbcdeihinboeaaDoorChar
set_option linter.unusedSimpArgs false
set_option linter.unusedVariables false
namespace Go.Proofs
open Go Go.Al

/-! ### Values under keys, as plain data -/

mutual
inductive GV where
  | mk (kind : Int) (text : ByteArray) (num bits : Int) (list : List GV) (map : List GA)
inductive GA where
  | mk (key : ByteArray) (val : GV)
end

def GV.kind : GV → Int | .mk k _ _ _ _ _ => k
def GV.text : GV → ByteArray | .mk _ t _ _ _ _ => t
def GV.num : GV → Int | .mk _ _ n _ _ _ => n
def GV.bits : GV → Int | .mk _ _ _ b _ _ => b
def GV.list : GV → List GV | .mk _ _ _ _ l _ => l
def GV.map : GV → List GA | .mk _ _ _ _ _ m => m
def GA.key : GA → ByteArray | .mk k _ => k
def GA.val : GA → GV | .mk _ v => v

theorem GA.key_mk (k : ByteArray) (v : GV) : (GA.mk k v).key = k := rfl
theorem GA.val_mk (k : ByteArray) (v : GV) : (GA.mk k v).val = v := rfl
theorem GV.kind_mk (k : Int) (t : ByteArray) (n b : Int) (l : List GV) (m : List GA) : (GV.mk k t n b l m).kind = k := rfl
theorem GV.text_mk (k : Int) (t : ByteArray) (n b : Int) (l : List GV) (m : List GA) : (GV.mk k t n b l m).text = t := rfl
theorem GV.num_mk (k : Int) (t : ByteArray) (n b : Int) (l : List GV) (m : List GA) : (GV.mk k t n b l m).num = n := rfl
theorem GV.bits_mk (k : Int) (t : ByteArray) (n b : Int) (l : List GV) (m : List GA) : (GV.mk k t n b l m).bits = b := rfl
theorem GV.list_mk (k : Int) (t : ByteArray) (n b : Int) (l : List GV) (m : List GA) : (GV.mk k t n b l m).list = l := rfl
theorem GV.map_mk (k : Int) (t : ByteArray) (n b : Int) (l : List GV) (m : List GA) : (GV.mk k t n b l m).map = m := rfl
theorem GV.eta (g : GV) : GV.mk g.kind g.text g.num g.bits g.list g.map = g := by cases g; rfl
theorem GA.eta (a : GA) : GA.mk a.key a.val = a := by cases a; rfl

mutual
def avV : GV → AV
  | .mk k t n b l m => .agg [cv k, sv t, iv n, uv b, .sl 6 (avVs l), .sl 7 (avAs m)]
def avVs : List GV → List AV
  | [] => []
  | x :: xs => avV x :: avVs xs
def avA : GA → AV
  | .mk k v => .agg [sv k, avV v]
def avAs : List GA → List AV
  | [] => []
  | x :: xs => avA x :: avAs xs
end
theorem avVs_map : ∀ l : List GV, avVs l = l.map avV
  | [] => rfl
  | x :: xs => by rw [avVs, avVs_map xs]; rfl
theorem avAs_map : ∀ l : List GA, avAs l = l.map avA
  | [] => rfl
  | x :: xs => by rw [avAs, avAs_map xs]; rfl

def GV.av (g : GV) : AV := .agg [cv g.kind, sv g.text, iv g.num, uv g.bits, .sl 6 (g.list.map avV), .sl 7 (g.map.map avA)]
def GA.av (a : GA) : AV := .agg [sv a.key, a.val.av]
theorem avV_eq (g : GV) : avV g = g.av := by
  cases g with
  | mk k t n b l m => rw [avV, avVs_map, avAs_map]; rfl
theorem avA_eq (a : GA) : avA a = a.av := by
  cases a with
  | mk k v => rw [avA, avV_eq]; rfl

/-! #### Sizes -/
mutual
def GV.wt : GV → Nat
  | .mk _ t _ _ l m => 1 + t.size + wtVs l + wtAs m
def wtVs : List GV → Nat
  | [] => 0
  | x :: xs => GV.wt x + wtVs xs
def GA.wt : GA → Nat
  | .mk k v => k.size + GV.wt v
def wtAs : List GA → Nat
  | [] => 0
  | x :: xs => GA.wt x + wtAs xs
end
theorem GV.wt_eq (g : GV) : g.wt = 1 + g.text.size + wtVs g.list + wtAs g.map := by cases g; rw [GV.wt]; rfl
theorem GA.wt_eq (a : GA) : a.wt = a.key.size + a.val.wt := by cases a; rw [GA.wt]; rfl
theorem GV.wt_pos (g : GV) : 1 ≤ g.wt := by rw [g.wt_eq]; omega
theorem GA.wt_pos (a : GA) : 1 ≤ a.wt := by rw [a.wt_eq]; have := a.val.wt_pos; omega
theorem wtVs_append : ∀ l m : List GV, wtVs (l ++ m) = wtVs l + wtVs m
  | [], m => by simp [wtVs]
  | x :: xs, m => by simp only [List.cons_append, wtVs, wtVs_append xs m]; omega
theorem wtAs_append : ∀ l m : List GA, wtAs (l ++ m) = wtAs l + wtAs m
  | [], m => by simp [wtAs]
  | x :: xs, m => by simp only [List.cons_append, wtAs, wtAs_append xs m]; omega
theorem wtVs_mem : ∀ {l : List GV} {x : GV}, x ∈ l → x.wt ≤ wtVs l
  | y :: ys, x, h => by
    rw [wtVs]
    rcases List.mem_cons.1 h with rfl | h
    · omega
    · have := wtVs_mem h; omega
theorem wtAs_mem : ∀ {l : List GA} {x : GA}, x ∈ l → x.wt ≤ wtAs l
  | y :: ys, x, h => by
    rw [wtAs]
    rcases List.mem_cons.1 h with rfl | h
    · omega
    · have := wtAs_mem h; omega
theorem len_wtVs : ∀ l : List GV, l.length ≤ wtVs l
  | [] => by simp [wtVs]
  | x :: xs => by rw [wtVs]; have := len_wtVs xs; have := x.wt_pos; simp; omega
theorem len_wtAs : ∀ l : List GA, l.length ≤ wtAs l
  | [] => by simp [wtAs]
  | x :: xs => by rw [wtAs]; have := len_wtAs xs; have := x.wt_pos; simp; omega

/-- From what is within to what holds it. -/
theorem GV.ind {P : GV → Prop} (h : ∀ g : GV, (∀ y ∈ g.list, P y) → (∀ a ∈ g.map, P a.val) → P g) (g : GV) : P g := by
  have key : ∀ n, ∀ g : GV, g.wt ≤ n → P g := by
    intro n
    induction n with
    | zero => intro g hg; have := g.wt_pos; omega
    | succ n ih =>
      intro g hg
      have e := g.wt_eq
      refine h g (fun y hy => ih y ?_) (fun a ha => ih a.val ?_)
      · have := wtVs_mem hy; omega
      · have := wtAs_mem ha; have := a.wt_eq; omega
  exact key g.wt g (Nat.le_refl _)

/-! #### What may be at all: numbers within their kinds, texts that there can be -/
mutual
def GV.ok : GV → Prop
  | .mk k t n b l m => (0 ≤ k ∧ k < 256) ∧ t.size ≤ maxLen ∧ (-9223372036854775808 ≤ n ∧ n < 9223372036854775808) ∧ (0 ≤ b ∧ b < 18446744073709551616) ∧ okVs l ∧ okAs m
def okVs : List GV → Prop
  | [] => True
  | x :: xs => GV.ok x ∧ okVs xs
def GA.ok : GA → Prop
  | .mk k v => k.size ≤ maxLen ∧ GV.ok v
def okAs : List GA → Prop
  | [] => True
  | x :: xs => GA.ok x ∧ okAs xs
end
theorem okVs_iff : ∀ {l : List GV}, okVs l ↔ ∀ x ∈ l, x.ok
  | [] => by simp [okVs]
  | x :: xs => by rw [okVs, okVs_iff]; simp
theorem okAs_iff : ∀ {l : List GA}, okAs l ↔ ∀ x ∈ l, x.ok
  | [] => by simp [okAs]
  | x :: xs => by rw [okAs, okAs_iff]; simp
theorem GV.ok_iff (g : GV) : g.ok ↔ (0 ≤ g.kind ∧ g.kind < 256) ∧ g.text.size ≤ maxLen ∧ (-9223372036854775808 ≤ g.num ∧ g.num < 9223372036854775808) ∧ (0 ≤ g.bits ∧ g.bits < 18446744073709551616) ∧ (∀ x ∈ g.list, x.ok) ∧ ∀ x ∈ g.map, x.ok := by
  cases g with
  | mk k t n b l m => rw [GV.ok, okVs_iff, okAs_iff]; rfl
theorem GA.ok_iff (a : GA) : a.ok ↔ a.key.size ≤ maxLen ∧ a.val.ok := by cases a; rw [GA.ok]; rfl

/-! ### Bytes -/

abbrev Bs := List UInt8

def hexD (n : Nat) : UInt8 := UInt8.ofNat (if n < 10 then 48 + n else 87 + n)
def hexB : Bs → Bs
  | [] => []
  | c :: s => hexD (c.toNat / 16) :: hexD (c.toNat % 16) :: hexB s
theorem hexB_append : ∀ s t : Bs, hexB (s ++ t) = hexB s ++ hexB t
  | [], t => rfl
  | c :: s, t => by simp only [List.cons_append, hexB, hexB_append s t]
theorem hexB_length : ∀ s : Bs, (hexB s).length = 2 * s.length
  | [] => rfl
  | c :: s => by simp only [hexB, List.length_cons, hexB_length s]; omega

def be : Nat → Nat → Bs
  | 0, _ => []
  | n + 1, u => be n (u / 256) ++ [UInt8.ofNat (u % 256)]
theorem be_length : ∀ n u, (be n u).length = n
  | 0, _ => rfl
  | n + 1, u => by simp [be, be_length n]

def natF : Nat → Nat → Bs
  | 0, _ => []
  | f + 1, n => if n < 10 then [UInt8.ofNat (48 + n)] else natF f (n / 10) ++ [UInt8.ofNat (48 + n % 10)]
def natB (n : Nat) : Bs := natF 20 n
def decB (n : Int) : Bs := if n < 0 then 45 :: natB (-n).toNat else natB n.toNat

theorem natF_length : ∀ f n, (natF f n).length ≤ f
  | 0, _ => Nat.le_refl _
  | f + 1, n => by
    rw [natF]
    split
    · simp
    · have := natF_length f (n / 10); simp; omega
theorem decB_length (n : Int) : (decB n).length ≤ 21 := by
  unfold decB natB
  split
  · have := natF_length 20 (-n).toNat; simp; omega
  · have := natF_length 20 n.toNat; omega
theorem natF_more : ∀ f n, n < 10 ^ f → 0 < f → natF (f + 1) n = natF f n
  | 0, _, _, h => by omega
  | f + 1, n, h, _ => by
    rw [natF]
    conv => rhs; rw [natF]
    split
    · rfl
    · rename_i hn
      rcases Nat.eq_zero_or_pos f with rfl | hf
      · simp at h; omega
      · rw [natF_more f (n / 10) (by rw [Nat.pow_succ] at h; omega) hf]

def escB (c : UInt8) : Bs := if c = 34 ∨ c = 92 then [92, c] else if c < 32 then 92 :: 117 :: 48 :: 48 :: hexB [c] else [c]
def escs : Bs → Bs
  | [] => []
  | c :: s => escB c ++ escs s
theorem escs_append : ∀ s t : Bs, escs (s ++ t) = escs s ++ escs t
  | [], t => rfl
  | c :: s, t => by simp only [List.cons_append, escs, escs_append s t, List.append_assoc]
theorem escB_length (c : UInt8) : (escB c).length ≤ 6 := by
  unfold escB
  split
  · simp
  · split
    · simp [hexB]
    · simp
theorem escs_length : ∀ s : Bs, (escs s).length ≤ 6 * s.length
  | [] => Nat.le_refl _
  | c :: s => by simp only [escs, List.length_append, List.length_cons]; have := escB_length c; have := escs_length s; omega
def quoteB (s : Bs) : Bs := 34 :: (escs s ++ [34])
theorem quoteB_length (s : Bs) : (quoteB s).length ≤ 6 * s.length + 2 := by
  unfold quoteB; simp; have := escs_length s; omega

def lst (s : ByteArray) : Bs := s.data.toList
theorem lst_len (s : ByteArray) : (lst s).length = s.size := by simp [lst]
theorem lst_strOf (l : Bs) : lst (strOf l) = l := strOf_list l
theorem strOf_lst (s : ByteArray) : strOf (lst s) = s := strOf_data s
theorem strOf_append (a b : Bs) : strOf a ++ strOf b = strOf (a ++ b) := by
  apply str_ext
  rw [ByteArray.data_append]
  simp [strOf]

/-! ### Texts of values -/

def simpB (v : GV) : Bs :=
  if v.kind = 1 then lst v.text
  else if v.kind = 2 then (if v.num = 0 then [102, 97, 108, 115, 101] else [116, 114, 117, 101])
  else if v.kind = 3 then decB v.num
  else if v.kind = 4 then 48 :: 120 :: hexB (be 8 v.bits.toNat)
  else if v.kind = 5 then hexB (lst v.text)
  else []

/-- Behind what is there already: a comma, but ahead of the first one. -/
def comma (first : Bool) : Bs := if first then [] else [44]

mutual
def jsonB : GV → Bs
  | .mk k t n b l m =>
    if k = 0 then [110, 117, 108, 108]
    else if k = 1 ∨ k = 4 ∨ k = 5 then quoteB (simpB (.mk k t n b [] []))
    else if k = 6 then 91 :: (jsonVs true l ++ [93])
    else if k = 7 then 123 :: (jsonAs true m ++ [125])
    else simpB (.mk k t n b [] [])
def jsonVs : Bool → List GV → Bs
  | _, [] => []
  | f, x :: xs => comma f ++ jsonB x ++ jsonVs false xs
def jsonA : GA → Bs
  | .mk k v => quoteB (lst k) ++ [58] ++ jsonB v
def jsonAs : Bool → List GA → Bs
  | _, [] => []
  | f, x :: xs => comma f ++ jsonA x ++ jsonAs false xs
end
theorem simpB_bare (g : GV) : simpB (.mk g.kind g.text g.num g.bits [] []) = simpB g := by cases g; rfl
theorem jsonB_eq (g : GV) : jsonB g = if g.kind = 0 then [110, 117, 108, 108] else if g.kind = 1 ∨ g.kind = 4 ∨ g.kind = 5 then quoteB (simpB g)
    else if g.kind = 6 then 91 :: (jsonVs true g.list ++ [93]) else if g.kind = 7 then 123 :: (jsonAs true g.map ++ [125]) else simpB g := by
  rw [← simpB_bare g]
  cases g with
  | mk k t n b l m => rw [jsonB]; rfl
theorem jsonA_eq (a : GA) : jsonA a = quoteB (lst a.key) ++ [58] ++ jsonB a.val := by cases a; rw [jsonA]; rfl
theorem jsonVs_snoc : ∀ (l : List GV) (f : Bool) (x : GV), jsonVs f (l ++ [x]) = jsonVs f l ++ comma (f && l.isEmpty) ++ jsonB x
  | [], f, x => by simp [jsonVs]
  | y :: l, f, x => by simp only [List.cons_append, jsonVs, jsonVs_snoc l false x, List.isEmpty_cons, Bool.and_false, Bool.false_and, List.append_assoc]
theorem jsonAs_snoc : ∀ (l : List GA) (f : Bool) (x : GA), jsonAs f (l ++ [x]) = jsonAs f l ++ comma (f && l.isEmpty) ++ jsonA x
  | [], f, x => by simp [jsonAs]
  | y :: l, f, x => by simp only [List.cons_append, jsonAs, jsonAs_snoc l false x, List.isEmpty_cons, Bool.and_false, Bool.false_and, List.append_assoc]

theorem simpB_length (v : GV) : (simpB v).length ≤ 21 + 2 * v.text.size := by
  unfold simpB
  have := decB_length v.num
  have := lst_len v.text
  repeat' split
  all_goals first | omega | (simp only [List.length_cons, List.length_nil, hexB_length, be_length, lst_len]; omega)
theorem comma_length (f : Bool) : (comma f).length ≤ 1 := by cases f <;> simp [comma]
theorem jsonVs_length (h : ∀ y : GV, True → (jsonB y).length + 5 ≤ 150 * y.wt) : True := trivial

theorem json_len (g : GV) : (jsonB g).length + 5 ≤ 150 * g.wt := by
  refine GV.ind (P := fun g => (jsonB g).length + 5 ≤ 150 * g.wt) ?_ g
  intro g h1 h2
  have e := g.wt_eq
  have hv : ∀ (l : List GV) (f : Bool), (∀ y ∈ l, (jsonB y).length + 5 ≤ 150 * y.wt) → (jsonVs f l).length ≤ 150 * wtVs l := by
    intro l
    induction l with
    | nil => intro f _; simp [jsonVs]
    | cons x xs ih =>
      intro f h
      simp only [jsonVs, wtVs, List.length_append]
      have := h x List.mem_cons_self
      have := ih false (fun y hy => h y (List.mem_cons_of_mem _ hy))
      have := comma_length f
      omega
  have ha : ∀ (l : List GA) (f : Bool), (∀ y ∈ l, (jsonB y.val).length + 5 ≤ 150 * y.val.wt) → (jsonAs f l).length ≤ 150 * wtAs l := by
    intro l
    induction l with
    | nil => intro f _; simp [jsonAs]
    | cons x xs ih =>
      intro f h
      simp only [jsonAs, wtAs, List.length_append, jsonA_eq, List.length_cons, List.length_nil]
      have := h x List.mem_cons_self
      have := ih false (fun y hy => h y (List.mem_cons_of_mem _ hy))
      have := comma_length f
      have := x.wt_eq
      have := quoteB_length (lst x.key)
      have := lst_len x.key
      omega
  have h3 := hv g.list true h1
  have h4 := ha g.map true h2
  have h5 := simpB_length g
  have h6 := quoteB_length (simpB g)
  rw [jsonB_eq]
  repeat' split
  all_goals first | omega | (simp only [List.length_cons, List.length_append, List.length_nil]; omega)

def textB (v : GV) : Bs := if v.kind = 6 ∨ v.kind = 7 then jsonB v else simpB v
def textM (v : GV) : ByteArray := strOf (textB v)
theorem textB_length (v : GV) : (textB v).length ≤ 150 * v.wt := by
  unfold textB
  have := json_len v
  have := simpB_length v
  have := v.wt_eq
  split <;> omega
def plainV (v : GV) : GV := .mk 1 (textM v) 0 0 [] []

end Go.Proofs
namespace Go.Proofs
open Go Go.Al

/-! ### Events, links, spans, scopes, resources, batches -/

structure GE where
  time : Int
  name : ByteArray
  attrs : List GA
structure GL where
  trace : Bs
  span : Bs
  state : ByteArray
  attrs : List GA
structure GSpan where
  trace : Bs
  id : Bs
  parent : Bs
  state : ByteArray
  name : ByteArray
  kind : Int
  start : Int
  fin : Int
  attrs : List GA
  events : List GE
  links : List GL
  code : Int
  note : ByteArray
structure GScope where
  name : ByteArray
  version : ByteArray
  spans : List GSpan
structure GRes where
  attrs : List GA
  scopes : List GScope

def GE.av (e : GE) : AV := .agg [uv e.time, sv e.name, .sl 7 (e.attrs.map avA)]
def GL.av (e : GL) : AV := .agg [.arr 16 e.trace, .arr 8 e.span, sv e.state, .sl 7 (e.attrs.map avA)]
def stAv (code : Int) (note : ByteArray) : AV := .agg [iv code, sv note]
def GSpan.av (s : GSpan) : AV := .agg [.arr 16 s.trace, .arr 8 s.id, .arr 8 s.parent, sv s.state, sv s.name, iv s.kind, uv s.start, uv s.fin, .sl 7 (s.attrs.map avA), .sl 3 (s.events.map GE.av), .sl 26 (s.links.map GL.av), .agg [iv s.code, sv s.note]]
def GScope.av (s : GScope) : AV := .agg [sv s.name, sv s.version, .sl 42 (s.spans.map GSpan.av)]
def GRes.av (r : GRes) : AV := .agg [.sl 7 (r.attrs.map avA), .sl 3 (r.scopes.map GScope.av)]
def batchAv (b : List GRes) : AV := .agg [.sl 2 (b.map GRes.av)]

def sumBy {α : Type} (f : α → Nat) : List α → Nat
  | [] => 0
  | x :: xs => f x + sumBy f xs
theorem sumBy_append {α : Type} (f : α → Nat) : ∀ l m : List α, sumBy f (l ++ m) = sumBy f l + sumBy f m
  | [], m => by simp [sumBy]
  | x :: xs, m => by simp only [List.cons_append, sumBy, sumBy_append f xs m]; omega
theorem sumBy_mem {α : Type} (f : α → Nat) : ∀ {l : List α} {x : α}, x ∈ l → f x ≤ sumBy f l
  | y :: ys, x, h => by
    rw [sumBy]
    rcases List.mem_cons.1 h with rfl | h
    · omega
    · have := sumBy_mem f h; omega
theorem sumBy_len {α : Type} (f : α → Nat) (hf : ∀ x, 1 ≤ f x) : ∀ l : List α, l.length ≤ sumBy f l
  | [] => by simp [sumBy]
  | x :: xs => by rw [sumBy]; have := sumBy_len f hf xs; have := hf x; simp; omega

def GE.wt (e : GE) : Nat := 1 + e.name.size + wtAs e.attrs
def GL.wt (e : GL) : Nat := 1 + e.state.size + wtAs e.attrs
def GSpan.wt (s : GSpan) : Nat := 1 + s.state.size + s.name.size + s.note.size + wtAs s.attrs + sumBy GE.wt s.events + sumBy GL.wt s.links
def GScope.wt (s : GScope) : Nat := 1 + s.name.size + s.version.size + sumBy GSpan.wt s.spans
def GRes.wt (r : GRes) : Nat := 1 + wtAs r.attrs + sumBy GScope.wt r.scopes
def wtB (b : List GRes) : Nat := sumBy GRes.wt b

def u64 (n : Int) : Prop := 0 ≤ n ∧ n < 18446744073709551616
def i64 (n : Int) : Prop := -9223372036854775808 ≤ n ∧ n < 9223372036854775808
def GE.ok (e : GE) : Prop := u64 e.time ∧ e.name.size ≤ maxLen ∧ ∀ a ∈ e.attrs, a.ok
def GL.ok (e : GL) : Prop := e.trace.length = 16 ∧ e.span.length = 8 ∧ e.state.size ≤ maxLen ∧ ∀ a ∈ e.attrs, a.ok
def GSpan.ok (s : GSpan) : Prop := (s.trace.length = 16 ∧ s.id.length = 8 ∧ s.parent.length = 8) ∧ (s.state.size ≤ maxLen ∧ s.name.size ≤ maxLen ∧ s.note.size ≤ maxLen) ∧ (i64 s.kind ∧ u64 s.start ∧ u64 s.fin ∧ i64 s.code) ∧ (∀ a ∈ s.attrs, a.ok) ∧ (∀ e ∈ s.events, e.ok) ∧ ∀ e ∈ s.links, e.ok
def GScope.ok (s : GScope) : Prop := s.name.size ≤ maxLen ∧ s.version.size ≤ maxLen ∧ ∀ x ∈ s.spans, x.ok
def GRes.ok (r : GRes) : Prop := (∀ a ∈ r.attrs, a.ok) ∧ ∀ s ∈ r.scopes, s.ok
def okB (b : List GRes) : Prop := ∀ r ∈ b, r.ok

/-! ### What is left of a room -/
def leftV (v : GV) (left : Int) : Int := if left < 0 then -1 else if (v.wt : Int) ≤ left then left - v.wt else -1
def leftAs (l : List GA) (left : Int) : Int := if left < 0 then left else if (wtAs l : Int) ≤ left then left - wtAs l else -1

/-! ### Order of keys, own forms -/
def ltB (a b : ByteArray) : Bool := Op.bytesLess (lst a) (lst b)

def intoA : List GA → GA → List GA
  | [], a => [a]
  | x :: xs, a => if ltB x.key a.key then x :: intoA xs a else if x.key = a.key then a :: xs else a :: x :: xs
def intoAll : List GA → List GA → List GA
  | acc, [] => acc
  | acc, a :: r => intoAll (intoA acc a) r
mutual
def canonV : GV → GV
  | .mk k t n b l m => .mk k t n b (canonVs l) (intoAll [] (canonPs m))
def canonVs : List GV → List GV
  | [] => []
  | x :: xs => canonV x :: canonVs xs
def canonP : GA → GA
  | .mk k v => .mk k (canonV v)
def canonPs : List GA → List GA
  | [] => []
  | x :: xs => canonP x :: canonPs xs
end
theorem canonVs_map : ∀ l : List GV, canonVs l = l.map canonV
  | [] => rfl
  | x :: xs => by rw [canonVs, canonVs_map xs]; rfl
theorem canonPs_map : ∀ l : List GA, canonPs l = l.map canonP
  | [] => rfl
  | x :: xs => by rw [canonPs, canonPs_map xs]; rfl
def canonAs (l : List GA) : List GA := intoAll [] (l.map canonP)
theorem canonV_eq (g : GV) : canonV g = .mk g.kind g.text g.num g.bits (g.list.map canonV) (canonAs g.map) := by
  cases g with
  | mk k t n b l m => rw [canonV, canonVs_map, canonPs_map]; rfl
theorem canonP_eq (a : GA) : canonP a = .mk a.key (canonV a.val) := by cases a; rw [canonP]; rfl

def canonE (e : GE) : GE := { e with attrs := canonAs e.attrs }
def canonL (e : GL) : GL := { e with attrs := canonAs e.attrs }
def canonS (s : GSpan) : GSpan := { s with attrs := canonAs s.attrs, events := s.events.map canonE, links := s.links.map canonL }
def canonSc (s : GScope) : GScope := { s with spans := s.spans.map canonS }
def canonR (r : GRes) : GRes := { attrs := canonAs r.attrs, scopes := r.scopes.map canonSc }
def canonB (b : List GRes) : List GRes := b.map canonR

/-! ### Sameness -/
mutual
def sameV : GV → GV → Bool
  | .mk k t n b l m, .mk k' t' n' b' l' m' => k == k' && decide (t = t') && n == n' && b == b' && sameVs l l' && sameAs m m'
def sameVs : List GV → List GV → Bool
  | [], [] => true
  | x :: xs, y :: ys => sameV x y && sameVs xs ys
  | _, _ => false
def sameA : GA → GA → Bool
  | .mk k v, .mk k' v' => decide (k = k') && sameV v v'
def sameAs : List GA → List GA → Bool
  | [], [] => true
  | x :: xs, y :: ys => sameA x y && sameAs xs ys
  | _, _ => false
end

mutual
theorem sameV_iff : ∀ (x y : GV), sameV x y = true ↔ x = y
  | .mk k t n b l m, .mk k' t' n' b' l' m' => by
    simp only [sameV, Bool.and_eq_true, beq_iff_eq, decide_eq_true_eq, sameVs_iff l l', sameAs_iff m m', GV.mk.injEq]
    constructor
    · rintro ⟨⟨⟨⟨⟨h1, h2⟩, h3⟩, h4⟩, h5⟩, h6⟩; exact ⟨h1, h2, h3, h4, h5, h6⟩
    · rintro ⟨h1, h2, h3, h4, h5, h6⟩; exact ⟨⟨⟨⟨⟨h1, h2⟩, h3⟩, h4⟩, h5⟩, h6⟩
theorem sameVs_iff : ∀ (x y : List GV), sameVs x y = true ↔ x = y
  | [], [] => by simp [sameVs]
  | x :: xs, y :: ys => by simp only [sameVs, Bool.and_eq_true, sameV_iff x y, sameVs_iff xs ys, List.cons.injEq]
  | [], y :: ys => by simp [sameVs]
  | x :: xs, [] => by simp [sameVs]
theorem sameA_iff : ∀ (x y : GA), sameA x y = true ↔ x = y
  | .mk k v, .mk k' v' => by simp only [sameA, Bool.and_eq_true, decide_eq_true_eq, sameV_iff v v', GA.mk.injEq]
theorem sameAs_iff : ∀ (x y : List GA), sameAs x y = true ↔ x = y
  | [], [] => by simp [sameAs]
  | x :: xs, y :: ys => by simp only [sameAs, Bool.and_eq_true, sameA_iff x y, sameAs_iff xs ys, List.cons.injEq]
  | [], y :: ys => by simp [sameAs]
  | x :: xs, [] => by simp [sameAs]
end
theorem sameV_refl (x : GV) : sameV x x = true := (sameV_iff x x).2 rfl
theorem sameAs_refl (x : List GA) : sameAs x x = true := (sameAs_iff x x).2 rfl

/-- Two lists, held against each other one by one. -/
def eqBy {α : Type} (f : α → α → Bool) : List α → List α → Bool
  | [], [] => true
  | x :: xs, y :: ys => f x y && eqBy f xs ys
  | _, _ => false
theorem eqBy_iff {α : Type} {f : α → α → Bool} (h : ∀ x y, f x y = true ↔ x = y) : ∀ (l m : List α), eqBy f l m = true ↔ l = m
  | [], [] => by simp [eqBy]
  | x :: xs, y :: ys => by simp only [eqBy, Bool.and_eq_true, h, eqBy_iff h xs ys, List.cons.injEq]
  | [], y :: ys => by simp [eqBy]
  | x :: xs, [] => by simp [eqBy]

end Go.Proofs
namespace Go.Proofs
open Go Go.Al

/-! ### Whether values may be -/

/-- Is all of a value 0 or empty, but for its kind and what the kind holds? -/
def emptyV (v : GV) : Bool :=
  (v.kind == 1 || v.kind == 5 || decide (v.text.size = 0)) && (v.kind == 2 || v.kind == 3 || v.num == 0) && (v.kind == 4 || v.bits == 0) && (v.kind == 6 || v.list.isEmpty) && (v.kind == 7 || v.map.isEmpty)

def keyC (k : ByteArray) : Int := if k.size = 0 then 9 else if checkM k ≠ -1 then 5 else if 64 < k.size then 35 else 0

/-- The first one of some codes that is not 0. -/
def orC (a b : Int) : Int := if a ≠ 0 then a else b

/-- Does a key not rise? -/
def prevBad (prev : Option ByteArray) (k : ByteArray) : Bool := match prev with | some p => !(ltB p k) | none => false

mutual
def checkV (d : Int) : GV → Int
  | .mk k t n b l m =>
    if 7 < k then 7
    else if emptyV (.mk k t n b l m) = false then 3
    else if 6 ≤ k ∧ 16 ≤ d then 33
    else if k = 1 ∧ checkM t ≠ -1 then 5
    else if k = 2 ∧ n ≠ 0 ∧ n ≠ 1 then 4
    else orC (checkVs (d + 1) l) (entC (d + 1) none m)
def checkVs (d : Int) : List GV → Int
  | [] => 0
  | x :: xs => orC (checkV d x) (checkVs d xs)
def checkA (d : Int) : GA → Int
  | .mk _ v => checkV d v
def entC (d : Int) (prev : Option ByteArray) : List GA → Int
  | [] => 0
  | x :: xs => orC (keyC x.key) (if prevBad prev x.key then 12 else orC (checkA d x) (entC d (some x.key) xs))
end
theorem checkV_eq (d : Int) (g : GV) : checkV d g = if 7 < g.kind then 7 else if emptyV g = false then 3 else if 6 ≤ g.kind ∧ 16 ≤ d then 33 else if g.kind = 1 ∧ checkM g.text ≠ -1 then 5
    else if g.kind = 2 ∧ g.num ≠ 0 ∧ g.num ≠ 1 then 4 else orC (checkVs (d + 1) g.list) (entC (d + 1) none g.map) := by
  cases g with
  | mk k t n b l m => rw [checkV]; rfl
theorem checkA_eq (d : Int) (a : GA) : checkA d a = checkV d a.val := by cases a; rw [checkA]; rfl

mutual
def deepV : GV → Int
  | .mk k t n b l m => (if k = 6 ∨ k = 7 then 1 else 0) + max (deepVs l) (deepAs m)
def deepVs : List GV → Int
  | [] => 0
  | x :: xs => max (deepV x) (deepVs xs)
def deepA : GA → Int
  | .mk _ v => deepV v
def deepAs : List GA → Int
  | [] => 0
  | x :: xs => max (deepA x) (deepAs xs)
end

/-! ### Attributes -/

def attrsC (l : List GA) : Int := if 32 < l.length then 34 else orC (entC 0 none l) (if l.any (fun a => decide (1024 < (textM a.val).size)) then 35 else 0)
def getA : List GA → ByteArray → Option GV
  | [], _ => none
  | x :: xs, k => if x.key = k then some x.val else getA xs k
def dropA (keys : List ByteArray) : List GA → List GA
  | [] => []
  | x :: xs => if keys.any (fun k => decide (k = x.key)) then dropA keys xs else x :: dropA keys xs
def plainA (kinds : List Int) (a : GA) : GA := if kinds.any (fun k => k == a.val.kind) then .mk a.key (plainV a.val) else a
def zeroV : GV := .mk 0 ⟨#[]⟩ 0 0 [] []
def textA (l : List GA) (k : ByteArray) : ByteArray := textM ((getA l k).getD zeroV)

/-- Keys that rise. -/
def risA (prev : Option ByteArray) : List GA → Prop
  | [] => True
  | x :: xs => (match prev with | some p => ltB p x.key = true | none => True) ∧ risA (some x.key) xs

/-! ### Spans -/

def nameC (s : ByteArray) : Int := if checkM s ≠ -1 then 5 else if 256 < s.size then 35 else 0
def zeros (l : Bs) : Bool := l.all (· == 0)
def evC : List GE → Int
  | [] => 0
  | e :: es => if 9223372036854775807 < e.time then 11 else orC (orC (nameC e.name) (attrsC e.attrs)) (evC es)
def evsC (l : List GE) : Int := if 16 < l.length then 34 else evC l
def lkC : List GL → Int
  | [] => 0
  | x :: xs => if zeros x.trace || zeros x.span then 10 else orC (orC (nameC x.state) (attrsC x.attrs)) (lkC xs)
def lksC (l : List GL) : Int := if 16 < l.length then 34 else lkC l
def spanC (s : GSpan) : Int :=
  if zeros s.trace || zeros s.id then 10
  else orC (orC (nameC s.state) (nameC s.name)) (if s.kind < 0 ∨ 5 < s.kind then 9 else 0)

/-! ### Weights -/
def attrsW : List GA → Nat
  | [] => 0
  | x :: xs => 64 + 6 * x.key.size + 12 * (textM x.val).size + attrsW xs
def spanW (s : GSpan) (service : ByteArray) : Nat :=
  512 + 6 * (service.size + s.state.size + s.name.size + s.note.size) + attrsW s.attrs + sumBy (fun e : GE => 64 + 6 * e.name.size + attrsW e.attrs) s.events + sumBy (fun e : GL => 64 + 6 * e.state.size + attrsW e.attrs) s.links
def scopeW (s : GScope) (service : ByteArray) : Nat := 64 + 6 * (s.name.size + s.version.size) + sumBy (fun x => spanW x service) s.spans
def skey : ByteArray := ⟨#[115, 101, 114, 118, 105, 99, 101, 46, 110, 97, 109, 101]⟩
def serviceM (r : GRes) : ByteArray := textA r.attrs skey
def resW (r : GRes) : Nat := 64 + attrsW r.attrs + sumBy (fun s => scopeW s (serviceM r)) r.scopes
def batchW (b : List GRes) : Nat := 16 + sumBy resW b

theorem attrsW_le : ∀ l : List GA, attrsW l ≤ 2000 * wtAs l
  | [] => by simp [attrsW]
  | x :: xs => by
    rw [attrsW, wtAs]
    have := attrsW_le xs
    have h1 : (textM x.val).size ≤ 150 * x.val.wt := by rw [textM, strOf_size]; exact textB_length _
    have := x.wt_eq
    have := x.val.wt_pos
    omega

end Go.Proofs
namespace Go.Proofs
open Go Go.Al

/-! ### The order of texts -/
theorem bl_irrefl : ∀ a : Bs, Op.bytesLess a a = false
  | [] => rfl
  | x :: a => by
    simp only [Op.bytesLess, bl_irrefl a, Bool.and_false, Bool.or_false]
    simp
theorem bl_trans : ∀ a b c : Bs, Op.bytesLess a b = true → Op.bytesLess b c = true → Op.bytesLess a c = true
  | _, [], _, h, _ => by simp [Op.bytesLess] at h
  | _, _ :: _, [], _, h => by simp [Op.bytesLess] at h
  | [], _ :: _, _ :: _, _, _ => by simp [Op.bytesLess]
  | x :: a, y :: b, z :: c, h, k => by
    simp only [Op.bytesLess, Bool.or_eq_true, Bool.and_eq_true, decide_eq_true_eq, beq_iff_eq] at h k ⊢
    rcases h with h | ⟨rfl, h⟩ <;> rcases k with k | ⟨rfl, k⟩
    · left; exact UInt8.lt_trans h k
    · left; exact h
    · left; exact k
    · right; exact ⟨rfl, bl_trans a b c h k⟩
theorem bl_tri : ∀ a b : Bs, Op.bytesLess a b = false → Op.bytesLess b a = false → a = b
  | [], [], _, _ => rfl
  | [], _ :: _, h, _ => by simp [Op.bytesLess] at h
  | _ :: _, [], _, h => by simp [Op.bytesLess] at h
  | x :: a, y :: b, h, k => by
    simp only [Op.bytesLess, Bool.or_eq_false_iff, decide_eq_false_iff_not, Bool.and_eq_false_imp, beq_iff_eq] at h k
    have : x = y := by
      have h1 := h.1; have k1 := k.1
      simp only [UInt8.lt_iff_toNat_lt] at h1 k1
      exact UInt8.toNat_inj.1 (by omega)
    subst this
    rw [bl_tri a b (h.2 rfl) (k.2 rfl)]
theorem ltB_irrefl (a : ByteArray) : ltB a a = false := bl_irrefl _
theorem ltB_trans {a b c : ByteArray} (h : ltB a b = true) (k : ltB b c = true) : ltB a c = true := bl_trans _ _ _ h k
theorem ltB_tri {a b : ByteArray} (h : ltB a b = false) (k : ltB b a = false) : a = b := str_ext (bl_tri _ _ h k)
theorem ltB_asymm {a b : ByteArray} (h : ltB a b = true) : ltB b a = false := by
  cases hb : ltB b a
  · rfl
  · have := ltB_trans h hb; rw [ltB_irrefl] at this; cases this

/-! ### Keys that rise -/
theorem risA_mem : ∀ {l : List GA} {p : ByteArray}, risA (some p) l → ∀ x ∈ l, ltB p x.key = true
  | y :: l, p, h, x, hx => by
    rcases List.mem_cons.1 hx with rfl | hx
    · exact h.1
    · exact ltB_trans h.1 (risA_mem h.2 x hx)
theorem risA_some {l : List GA} {p : ByteArray} (h : risA none l) (hp : ∀ x ∈ l, ltB p x.key = true) : risA (some p) l := by
  cases l with
  | nil => trivial
  | cons x l => exact ⟨hp x List.mem_cons_self, h.2⟩
theorem risA_none {l : List GA} {p : Option ByteArray} (h : risA p l) : risA none l := by
  cases l with
  | nil => trivial
  | cons x l => exact ⟨trivial, h.2⟩

theorem mem_intoA : ∀ {l : List GA} {a x : GA}, x ∈ intoA l a → x = a ∨ x ∈ l
  | [], a, x, h => by simp [intoA] at h; exact .inl h
  | y :: l, a, x, h => by
    rw [intoA] at h
    split at h
    · rcases List.mem_cons.1 h with rfl | h
      · exact .inr List.mem_cons_self
      · rcases mem_intoA h with h | h
        · exact .inl h
        · exact .inr (List.mem_cons_of_mem _ h)
    · split at h
      · rcases List.mem_cons.1 h with rfl | h
        · exact .inl rfl
        · exact .inr (List.mem_cons_of_mem _ h)
      · rcases List.mem_cons.1 h with rfl | h
        · exact .inl rfl
        · exact .inr h
theorem mem_intoAll : ∀ {l acc : List GA} {x : GA}, x ∈ intoAll acc l → x ∈ acc ∨ x ∈ l
  | [], acc, x, h => .inl h
  | a :: l, acc, x, h => by
    rcases mem_intoAll (l := l) h with h | h
    · rcases mem_intoA h with rfl | h
      · exact .inr List.mem_cons_self
      · exact .inl h
    · exact .inr (List.mem_cons_of_mem _ h)
theorem wt_intoA : ∀ (l : List GA) (a : GA), wtAs (intoA l a) ≤ wtAs l + a.wt
  | [], a => by simp [intoA, wtAs]
  | y :: l, a => by
    rw [intoA]
    have := wt_intoA l a
    split
    · simp only [wtAs]; omega
    · split <;> simp only [wtAs] <;> omega
theorem wt_intoAll : ∀ (l acc : List GA), wtAs (intoAll acc l) ≤ wtAs acc + wtAs l
  | [], acc => by simp [intoAll, wtAs]
  | a :: l, acc => by
    rw [intoAll, wtAs]
    have := wt_intoAll l (intoA acc a)
    have := wt_intoA acc a
    omega

theorem ris_intoA : ∀ (l : List GA) (a : GA) (p : Option ByteArray), risA p l → (match p with | some p => ltB p a.key = true | none => True) → risA p (intoA l a)
  | [], a, p, _, h => ⟨h, trivial⟩
  | y :: l, a, p, hr, h => by
    rw [intoA]
    split
    · rename_i hl
      exact ⟨hr.1, ris_intoA l a (some y.key) hr.2 hl⟩
    · rename_i hl
      split
      · rename_i he
        exact ⟨h, he ▸ hr.2⟩
      · rename_i he
        refine ⟨h, ?_, hr.2⟩
        cases hb : ltB a.key y.key
        · exact absurd (ltB_tri (by simpa using hl) hb) he
        · exact hb
theorem ris_intoAll : ∀ (l acc : List GA), risA none acc → risA none (intoAll acc l)
  | [], acc, h => h
  | a :: l, acc, h => ris_intoAll l _ (ris_intoA acc a none h trivial)
theorem ris_canonAs (l : List GA) : risA none (canonAs l) := ris_intoAll _ [] trivial

theorem intoA_last : ∀ (l : List GA) (a : GA), (∀ x ∈ l, ltB x.key a.key = true) → intoA l a = l ++ [a]
  | [], a, _ => rfl
  | y :: l, a, h => by
    rw [intoA, if_pos (h y List.mem_cons_self), intoA_last l a (fun x hx => h x (List.mem_cons_of_mem _ hx))]; rfl
theorem intoAll_ris : ∀ (l acc : List GA), risA none (acc ++ l) → intoAll acc l = acc ++ l
  | [], acc, _ => by simp [intoAll]
  | a :: l, acc, h => by
    rw [intoAll, intoA_last acc a]
    · rw [intoAll_ris l (acc ++ [a]) (by simpa using h)]; simp
    · intro x hx
      have key : ∀ (acc : List GA) (p : Option ByteArray), risA p (acc ++ a :: l) → x ∈ acc → ltB x.key a.key = true := by
        intro acc
        induction acc with
        | nil => intro _ _ h; cases h
        | cons y acc ih =>
          intro p hr hx
          rcases List.mem_cons.1 hx with rfl | hx
          · exact risA_mem hr.2 a (by simp)
          · exact ih _ hr.2 hx
      exact key acc none h hx

theorem canonP_key (a : GA) : (canonP a).key = a.key := by rw [canonP_eq]; rfl
theorem risA_canonP : ∀ {l : List GA} {p : Option ByteArray}, risA p l → risA p (l.map canonP)
  | [], _, _ => trivial
  | x :: l, p, h => ⟨by simp only [canonP_key]; exact h.1, by rw [canonP_key]; exact risA_canonP h.2⟩

/-- Of its own form, all through. -/
theorem canonV_idem (g : GV) : canonV (canonV g) = canonV g := by
  refine GV.ind (P := fun g => canonV (canonV g) = canonV g) ?_ g
  intro g h1 h2
  have hm : ∀ a ∈ canonAs g.map, canonP a = a := by
    intro a ha
    rcases mem_intoAll ha with h | h
    · cases h
    · obtain ⟨b, hb, rfl⟩ := List.mem_map.1 h
      rw [canonP_eq b, canonP_eq]
      exact congrArg (GA.mk b.key) (h2 b hb)
  have e2 : canonAs (canonAs g.map) = canonAs g.map := by
    have : (canonAs g.map).map canonP = canonAs g.map := by
      conv => rhs; rw [← List.map_id (canonAs g.map)]
      exact List.map_congr_left hm
    unfold canonAs at this ⊢
    rw [this]
    exact intoAll_ris (canonAs g.map) [] (ris_canonAs g.map)
  have e1 : (g.list.map canonV).map canonV = g.list.map canonV := by
    rw [List.map_map]
    exact List.map_congr_left fun y hy => h1 y hy
  rw [canonV_eq g, canonV_eq (.mk g.kind g.text g.num g.bits (g.list.map canonV) (canonAs g.map))]
  change GV.mk g.kind g.text g.num g.bits ((g.list.map canonV).map canonV) (canonAs (canonAs g.map)) = _
  rw [e1, e2]
theorem canonP_idem (a : GA) : canonP (canonP a) = canonP a := by
  rw [canonP_eq a, canonP_eq (.mk a.key (canonV a.val))]
  exact congrArg (GA.mk a.key) (canonV_idem a.val)
theorem canonAs_idem (l : List GA) : canonAs (canonAs l) = canonAs l := by
  have hm : (canonAs l).map canonP = canonAs l := by
    conv => rhs; rw [← List.map_id (canonAs l)]
    refine List.map_congr_left fun a ha => ?_
    rcases mem_intoAll ha with h | h
    · cases h
    · obtain ⟨b, hb, rfl⟩ := List.mem_map.1 h
      exact canonP_idem b
  have h0 : canonAs (canonAs l) = intoAll [] ((canonAs l).map canonP) := rfl
  rw [h0, hm]
  exact intoAll_ris (canonAs l) [] (ris_canonAs l)
theorem canonS_idem (s : GSpan) : canonS (canonS s) = canonS s := by
  simp only [canonS, canonAs_idem, List.map_map]
  congr 1
  · exact List.map_congr_left fun e _ => by simp [canonE, canonAs_idem]
  · exact List.map_congr_left fun e _ => by simp [canonL, canonAs_idem]
theorem canonB_idem (b : List GRes) : canonB (canonB b) = canonB b := by
  simp only [canonB, List.map_map]
  refine List.map_congr_left fun r _ => ?_
  simp only [Function.comp, canonR, canonAs_idem, List.map_map, GRes.mk.injEq, true_and]
  refine List.map_congr_left fun s _ => ?_
  simp only [Function.comp, canonSc, List.map_map]
  congr 1
  exact List.map_congr_left fun x _ => canonS_idem x

/-! ### Own forms are no greater, and may be wherever they were -/
theorem wt_canonV (g : GV) : (canonV g).wt ≤ g.wt := by
  refine GV.ind (P := fun g => (canonV g).wt ≤ g.wt) ?_ g
  intro g h1 h2
  have hv : ∀ l : List GV, (∀ y ∈ l, (canonV y).wt ≤ y.wt) → wtVs (l.map canonV) ≤ wtVs l := by
    intro l
    induction l with
    | nil => intro _; simp [wtVs]
    | cons x l ih => intro h; simp only [List.map_cons, wtVs]; have := h x List.mem_cons_self; have := ih (fun y hy => h y (List.mem_cons_of_mem _ hy)); omega
  have ha : ∀ l : List GA, (∀ y ∈ l, (canonV y.val).wt ≤ y.val.wt) → wtAs (l.map canonP) ≤ wtAs l := by
    intro l
    induction l with
    | nil => intro _; simp [wtAs]
    | cons x l ih =>
      intro h; simp only [List.map_cons, wtAs]; have := h x List.mem_cons_self; have := ih (fun y hy => h y (List.mem_cons_of_mem _ hy))
      have e := x.wt_eq
      have e2 := (canonP x).wt_eq
      rw [canonP_eq x] at e2 ⊢
      simp only [GA.key_mk, GA.val_mk] at e2
      omega
  have := hv g.list h1
  have := ha g.map h2
  have := wt_intoAll (g.map.map canonP) []
  have e := g.wt_eq
  have e2 := (canonV g).wt_eq
  rw [canonV_eq g] at e2 ⊢
  simp only [GV.text_mk, GV.list_mk, GV.map_mk] at e2
  have h3 : wtAs (canonAs g.map) ≤ 0 + wtAs (g.map.map canonP) := this
  omega
theorem wt_canonAs (l : List GA) : wtAs (canonAs l) ≤ wtAs l := by
  have ha : ∀ l : List GA, wtAs (l.map canonP) ≤ wtAs l := by
    intro l
    induction l with
    | nil => simp [wtAs]
    | cons x l ih =>
      simp only [List.map_cons, wtAs]
      have := wt_canonV x.val
      have e := x.wt_eq
      have e2 := (canonP x).wt_eq
      rw [canonP_eq x] at e2 ⊢
      simp only [GA.key_mk, GA.val_mk] at e2
      omega
  have := ha l
  have := wt_intoAll (l.map canonP) []
  simp only [wtAs] at this
  unfold canonAs
  omega
theorem sumBy_map_le {α β : Type} {f : α → β} {g : β → Nat} {h : α → Nat} (hle : ∀ x, g (f x) ≤ h x) : ∀ l : List α, sumBy g (l.map f) ≤ sumBy h l
  | [] => Nat.le_refl _
  | x :: xs => by simp only [List.map_cons, sumBy]; have := hle x; have := sumBy_map_le hle xs; omega
theorem wt_canonS (s : GSpan) : (canonS s).wt ≤ s.wt := by
  have h1 := wt_canonAs s.attrs
  have h2 := sumBy_map_le (f := canonE) (g := GE.wt) (h := GE.wt) (fun e => by simp only [canonE, GE.wt]; have := wt_canonAs e.attrs; omega) s.events
  have h3 := sumBy_map_le (f := canonL) (g := GL.wt) (h := GL.wt) (fun e => by simp only [canonL, GL.wt]; have := wt_canonAs e.attrs; omega) s.links
  simp only [canonS, GSpan.wt]; omega
theorem wt_canonB (b : List GRes) : wtB (canonB b) ≤ wtB b := by
  refine sumBy_map_le (f := canonR) (fun r => ?_) b
  have h1 := wt_canonAs r.attrs
  have h2 := sumBy_map_le (f := canonSc) (g := GScope.wt) (h := GScope.wt) (fun s => by
    have := sumBy_map_le (f := canonS) (g := GSpan.wt) (h := GSpan.wt) wt_canonS s.spans
    simp only [canonSc, GScope.wt]; omega) r.scopes
  simp only [canonR, GRes.wt]; omega

theorem ok_canonV (g : GV) : g.ok → (canonV g).ok := by
  refine GV.ind (P := fun g => g.ok → (canonV g).ok) ?_ g
  intro g h1 h2 hg
  rw [GV.ok_iff] at hg
  obtain ⟨a1, a2, a3, a4, a5, a6⟩ := hg
  rw [GV.ok_iff, canonV_eq g]
  refine ⟨a1, a2, a3, a4, ?_, ?_⟩
  · intro x hx
    obtain ⟨y, hy, rfl⟩ := List.mem_map.1 hx
    exact h1 y hy (a5 y hy)
  · intro x hx
    rcases mem_intoAll (show x ∈ intoAll [] (g.map.map canonP) from hx) with h | h
    · cases h
    · obtain ⟨y, hy, rfl⟩ := List.mem_map.1 h
      have := (GA.ok_iff y).1 (a6 y hy)
      rw [GA.ok_iff, canonP_eq]
      exact ⟨this.1, h2 y hy this.2⟩
theorem ok_canonAs {l : List GA} (h : ∀ a ∈ l, a.ok) : ∀ a ∈ canonAs l, a.ok := by
  intro x hx
  rcases mem_intoAll (show x ∈ intoAll [] (l.map canonP) from hx) with k | k
  · cases k
  · obtain ⟨y, hy, rfl⟩ := List.mem_map.1 k
    have := (GA.ok_iff y).1 (h y hy)
    rw [GA.ok_iff, canonP_eq]
    exact ⟨this.1, ok_canonV y.val this.2⟩
theorem ok_canonS {s : GSpan} (h : s.ok) : (canonS s).ok := by
  obtain ⟨h1, h2, h3, h4, h5, h6⟩ := h
  refine ⟨h1, h2, h3, ok_canonAs h4, ?_, ?_⟩
  · intro e he
    obtain ⟨e', he', rfl⟩ := List.mem_map.1 he
    obtain ⟨k1, k2, k3⟩ := h5 e' he'
    exact ⟨k1, k2, ok_canonAs k3⟩
  · intro e he
    obtain ⟨e', he', rfl⟩ := List.mem_map.1 he
    obtain ⟨k1, k2, k3, k4⟩ := h6 e' he'
    exact ⟨k1, k2, k3, ok_canonAs k4⟩
theorem ok_canonB {b : List GRes} (h : okB b) : okB (canonB b) := by
  intro r hr
  obtain ⟨r', hr', rfl⟩ := List.mem_map.1 hr
  obtain ⟨k1, k2⟩ := h r' hr'
  refine ⟨ok_canonAs k1, fun s hs => ?_⟩
  obtain ⟨s', hs', rfl⟩ := List.mem_map.1 hs
  obtain ⟨q1, q2, q3⟩ := k2 s' hs'
  refine ⟨q1, q2, fun x hx => ?_⟩
  obtain ⟨x', hx', rfl⟩ := List.mem_map.1 hx
  exact ok_canonS (q3 x' hx')

end Go.Proofs
namespace Go.Proofs
open Go Go.Al

/-! ### Digits and bytes, as the walks meet them -/
def digs : ByteArray := ⟨#[48, 49, 50, 51, 52, 53, 54, 55, 56, 57, 97, 98, 99, 100, 101, 102]⟩
def digs10 : ByteArray := ⟨#[48, 49, 50, 51, 52, 53, 54, 55, 56, 57]⟩

theorem hexD_bAt (n : Int) (h : 0 ≤ n ∧ n < 16) : bAt digs n = (hexD n.toNat).toNat := by
  have key : ∀ k : Fin 16, bAt digs ((k.val : Nat) : Int) = (hexD k.val).toNat := by decide
  have := key ⟨n.toNat, by omega⟩
  simp only at this
  rw [show ((n.toNat : Nat) : Int) = n by omega] at this
  exact this
theorem and15 (n : Int) (h : 0 ≤ n ∧ n < 256) : bitsOf (· &&& ·) .u8 n 15 = n % 16 := by
  have key : ∀ k : Fin 256, bitsOf (· &&& ·) .u8 ((k.val : Nat) : Int) 15 = ((k.val : Nat) : Int) % 16 := by decide +kernel
  have := key ⟨n.toNat, by omega⟩
  simp only at this
  rw [show ((n.toNat : Nat) : Int) = n by omega] at this
  exact this
theorem shr4 (n : Int) (h : 0 ≤ n ∧ n < 256) : n.fdiv (2 ^ (min (4 : Int).toNat IntKind.u8.bits)) = n / 16 := by
  have : min (4 : Int).toNat IntKind.u8.bits = 4 := by decide
  rw [this, Int.fdiv_eq_ediv_of_nonneg _ (by decide)]
  rfl
theorem bAt_nat (s : ByteArray) (i : Nat) (h : i < s.size) : ∃ c : UInt8, (lst s)[i]? = some c ∧ bAt s (i : Int) = c.toNat := by
  have hl : i < (lst s).length := by rw [lst_len]; exact h
  refine ⟨(lst s)[i], List.getElem?_eq_getElem hl, ?_⟩
  unfold bAt
  show (((lst s).getD (Int.toNat (i : Int)) 0).toNat : Int) = _
  rw [Int.toNat_natCast, List.getD_eq_getElem?_getD, List.getElem?_eq_getElem hl]
  rfl
theorem take_snoc {α : Type} {l : List α} {i : Nat} {c : α} (h : l[i]? = some c) : l.take (i + 1) = l.take i ++ [c] := by
  rw [List.take_add_one, h]; rfl
theorem lst_ext1 (s : ByteArray) (i : Nat) (c : UInt8) (h : (lst s)[i]? = some c) : lst (s.extract i (i + 1)) = [c] := by
  have hl : i < (lst s).length := (List.getElem?_eq_some_iff.1 h).1
  have hs : i < s.size := by rw [← lst_len]; exact hl
  unfold lst at h ⊢
  rw [ByteArray.data_extract, Array.toList_extract, List.extract_eq_take_drop]
  rw [show i + 1 - i = 1 from by omega, List.drop_eq_getElem_cons (by simpa using hs)]
  rw [List.getElem?_eq_getElem (by simpa using hs)] at h
  cases h
  rfl
theorem lst_app (s t : ByteArray) : lst (s ++ t) = lst s ++ lst t := app_list s t
theorem strOf_size' (l : Bs) : (strOf l).size = l.length := strOf_size l

/-! #### Whole numbers -/
theorem tdiv_pos (n : Int) (k : Int) (h : 0 ≤ n) (hk : 0 < k) : n.tdiv k = n / k := Int.tdiv_eq_ediv_of_nonneg h
theorem tmod_pos (n : Int) (k : Int) (h : 0 ≤ n) : n.tmod k = n % k := Int.tmod_eq_emod_of_nonneg h

theorem natF_stop {i : Nat} {u : Int} (h0 : 0 ≤ u) (h : u < 10) : natF (i + 1) u.toNat = [UInt8.ofNat (48 + (u % 10).toNat)] := by
  rw [natF, if_pos (by omega)]
  rw [show u.toNat = (u % 10).toNat by omega]
theorem natF_step {i : Nat} {u : Int} (h0 : 0 ≤ u) (h : 10 ≤ u) : natF (i + 1) u.toNat = natF i (u / 10).toNat ++ [UInt8.ofNat (48 + (u % 10).toNat)] := by
  rw [natF, if_neg (by omega)]
  rw [show u.toNat / 10 = (u / 10).toNat by omega, show u.toNat % 10 = (u % 10).toNat by omega]
theorem dig_av {u : Int} (h0 : 0 ≤ u) : ofI (IntKind.u8.wrap (48 + IntKind.u8.wrap (u % 10))) = UInt8.ofNat (48 + (u % 10).toNat) := by
  rw [wrap8 (n := u % 10) (by omega) (by omega), wrap8 (by omega) (by omega)]
  unfold ofI
  congr 1
  omega
theorem set_drop {l : Bs} {i : Nat} {c : UInt8} (h : i < l.length) : (l.set i c).drop i = c :: l.drop (i + 1) := by
  rw [List.drop_eq_getElem_cons (by simpa using h), List.getElem_set_self, List.drop_set_of_lt (by omega)]

theorem natB_one {u : Int} (h0 : 0 ≤ u) (h : u < 10) : natB u.toNat = [UInt8.ofNat (48 + (u % 10).toNat)] := natF_stop h0 h
theorem natB_more {u : Int} (h0 : 10 ≤ u) (h : u < 18446744073709551616) : natB u.toNat = natB (u / 10).toNat ++ [UInt8.ofNat (48 + (u % 10).toNat)] := by
  unfold natB
  rw [natF_step (i := 19) (by omega) h0]
  congr 1
  have : (u / 10).toNat < 10 ^ 19 := by omega
  exact (natF_more 19 _ this (by omega)).symm

/-! #### Eight bytes, the highest first -/
def beI (u : Nat) (i : Nat) : UInt8 := UInt8.ofNat (u / 2 ^ (56 - 8 * i) % 256)
theorem be8 (u : Nat) : be 8 u = (List.range 8).map (beI u) := by
  simp only [be, List.range, List.range.loop, List.map_cons, List.map_nil, beI, List.nil_append, List.cons_append, Nat.div_div_eq_div_mul]
  simp
theorem be8_take (u i : Nat) (h : i < 8) : (be 8 u).take (i + 1) = (be 8 u).take i ++ [beI u i] := by
  refine take_snoc ?_
  rw [be8, List.getElem?_map, List.getElem?_range h]; rfl
def highs : Bs := [56, 48, 40, 32, 24, 16, 8, 0]
theorem highs_at (i : Nat) (h : i < 8) : bA highs (i : Int) = 56 - 8 * (i : Int) := by
  have key : ∀ k : Fin 8, bA highs ((k.val : Nat) : Int) = 56 - 8 * ((k.val : Nat) : Int) := by decide
  exact key ⟨i, h⟩
theorem high_av (u : Int) (i : Nat) (h0 : 0 ≤ u) (h : i < 8) : AV.v (.int .u8 (IntKind.u8.wrap (u.fdiv (2 ^ (min (bA highs (i : Int)).toNat IntKind.u64.bits))))) = .v (byteV (beI u.toNat i)) := by
  rw [highs_at i h]
  have e : min (56 - 8 * (i : Int)).toNat IntKind.u64.bits = 56 - 8 * i := by
    have : IntKind.u64.bits = 64 := by decide
    omega
  rw [e, Int.fdiv_eq_ediv_of_nonneg _ (Int.pow_nonneg (by decide))]
  have e2 : IntKind.u8.wrap (u / 2 ^ (56 - 8 * i)) = ((u.toNat / 2 ^ (56 - 8 * i) % 256 : Nat) : Int) := by
    have h1 : u / 2 ^ (56 - 8 * i) = ((u.toNat / 2 ^ (56 - 8 * i) : Nat) : Int) := by
      rw [Int.natCast_ediv, Int.natCast_pow, Int.toNat_of_nonneg h0]; rfl
    rw [h1]
    generalize u.toNat / 2 ^ (56 - 8 * i) = q
    simp [IntKind.wrap, IntKind.bits, IntKind.signed]
  rw [e2]
  refine byte_av ?_
  unfold beI
  rw [UInt8.toNat_ofNat']
  omega

/-! #### Escapes -/
theorem escs_snoc (s : Bs) (c : UInt8) : escs (s ++ [c]) = escs s ++ escB c := by rw [escs_append]; simp [escs]
theorem esc_quote {c : UInt8} (h : (c.toNat : Int) = 34 ∨ (c.toNat : Int) = 92) : escB c = [92, c] := by
  unfold escB
  rw [if_pos]
  rcases h with h | h
  · left; exact UInt8.toNat_inj.1 (by simpa using (by omega : c.toNat = 34))
  · right; exact UInt8.toNat_inj.1 (by simpa using (by omega : c.toNat = 92))
theorem esc_low {c : UInt8} (h1 : (c.toNat : Int) ≠ 34) (h2 : (c.toNat : Int) ≠ 92) (h : (c.toNat : Int) < 32) : escB c = 92 :: 117 :: 48 :: 48 :: hexB [c] := by
  unfold escB
  rw [if_neg, if_pos]
  · exact UInt8.lt_iff_toNat_lt.2 (by simpa using (by omega : c.toNat < 32))
  · rintro (rfl | rfl) <;> simp at h1 h2
theorem esc_plain {c : UInt8} (h1 : (c.toNat : Int) ≠ 34) (h2 : (c.toNat : Int) ≠ 92) (h : ¬ (c.toNat : Int) < 32) : escB c = [c] := by
  unfold escB
  rw [if_neg, if_neg]
  · intro h3; have := UInt8.lt_iff_toNat_lt.1 h3; simp at this; omega
  · rintro (rfl | rfl) <;> simp at h1 h2

theorem ex1_size {s : ByteArray} {i : Nat} (h : i < s.size) : (s.extract i (i + 1)).size = 1 := by
  obtain ⟨c, h1, _⟩ := bAt_nat s i h
  have := lst_ext1 s i c h1
  rw [← lst_len, this]; rfl
theorem esc1 {ys : List AV} {s : ByteArray} {i : Nat} {c : UInt8} (h : (lst s)[i]? = some c) (hq : (c.toNat : Int) = 34 ∨ (c.toNat : Int) = 92) : ys ++ bytesL (ByteArray.append ⟨#[92]⟩ (s.extract i (i + 1))).data.toList = ys ++ bytesL (escB c) := by
  have e : (ByteArray.append ⟨#[92]⟩ (s.extract i (i + 1))).data.toList = escB c := by
    have := lst_app ⟨#[92]⟩ (s.extract i (i + 1))
    rw [lst_ext1 s i c h] at this
    rw [esc_quote hq]; exact this
  rw [e]
theorem esc2 {ys : List AV} {s : ByteArray} {i : Nat} {c : UInt8} (h : (lst s)[i]? = some c) (h1 : (c.toNat : Int) ≠ 34) (h2 : (c.toNat : Int) ≠ 92) (h3 : (c.toNat : Int) < 32) : ys ++ bytesL (ByteArray.append ⟨#[92, 117, 48, 48]⟩ (strOf (hexB (lst (s.extract i (i + 1)))))).data.toList = ys ++ bytesL (escB c) := by
  have e : (ByteArray.append ⟨#[92, 117, 48, 48]⟩ (strOf (hexB (lst (s.extract i (i + 1)))))).data.toList = escB c := by
    have := lst_app ⟨#[92, 117, 48, 48]⟩ (strOf (hexB (lst (s.extract i (i + 1)))))
    rw [lst_ext1 s i c h, lst_strOf] at this
    rw [esc_low h1 h2 h3, lst_ext1 s i c h]; exact this
  rw [e]
theorem esc3 {ys : List AV} {s : ByteArray} {i : Nat} {c : UInt8} (h : (lst s)[i]? = some c) (h1 : (c.toNat : Int) ≠ 34) (h2 : (c.toNat : Int) ≠ 92) (h3 : ¬ (c.toNat : Int) < 32) : ys ++ bytesL (s.extract i (i + 1)).data.toList = ys ++ bytesL (escB c) := by
  have e : (s.extract i (i + 1)).data.toList = escB c := by rw [esc_plain h1 h2 h3]; exact lst_ext1 s i c h
  rw [e]

/-! #### The references' ways -/
theorem lst_digs (n : Nat) (h : n < 16) : lst (digs.extract n (n + 1)) = [hexD n] := by
  have key : ∀ k : Fin 16, lst (digs.extract k.val (k.val + 1)) = [hexD k.val] := by decide
  exact key ⟨n, h⟩
theorem lst_digs10 (n : Nat) (h : n < 10) : lst (digs10.extract n (n + 1)) = [UInt8.ofNat (48 + n)] := by
  have key : ∀ k : Fin 10, lst (digs10.extract k.val (k.val + 1)) = [UInt8.ofNat (48 + k.val)] := by decide
  exact key ⟨n, h⟩
theorem lst_inj {s t : ByteArray} (h : lst s = lst t) : s = t := str_ext h
theorem strOf_eq {s : ByteArray} {l : Bs} (h : lst s = l) : s = strOf l := lst_inj (by rw [h, lst_strOf])
/-- One digit, by its slice. -/
theorem dig10 (u : Int) (h : 0 ≤ u) : digs10.extract (u.tmod 10).toNat (IntKind.u64.wrap (u.tmod 10 + 1)).toNat = strOf [UInt8.ofNat (48 + (u % 10).toNat)] := by
  rw [tmod_pos u 10 h, wrapu64 (by omega) (by omega)]
  refine strOf_eq ?_
  rw [show (u % 10 + 1).toNat = (u % 10).toNat + 1 by omega]
  exact lst_digs10 _ (by omega)
theorem dig16a (n : Int) (h : 0 ≤ n ∧ n < 256) : digs.extract (IntKind.u8.wrap (n.tdiv 16)).toNat (IntKind.u8.wrap (IntKind.u8.wrap (n.tdiv 16) + 1)).toNat = strOf [hexD (n.toNat / 16)] := by
  rw [tdiv_pos n 16 h.1 (by decide), wrap8 (n := n / 16) (by omega) (by omega), wrap8 (by omega) (by omega)]
  refine strOf_eq ?_
  rw [show (n / 16 + 1).toNat = n.toNat / 16 + 1 by omega, show (n / 16).toNat = n.toNat / 16 by omega]
  exact lst_digs _ (by omega)
theorem dig16b (n : Int) (h : 0 ≤ n ∧ n < 256) : digs.extract (n.tmod 16).toNat (IntKind.u8.wrap (n.tmod 16 + 1)).toNat = strOf [hexD (n.toNat % 16)] := by
  rw [tmod_pos n 16 h.1, wrap8 (by omega) (by omega)]
  refine strOf_eq ?_
  rw [show (n % 16 + 1).toNat = n.toNat % 16 + 1 by omega, show (n % 16).toNat = n.toNat % 16 by omega]
  exact lst_digs _ (by omega)
theorem q16 (n : Int) (h : 0 ≤ n ∧ n < 256) : 0 ≤ IntKind.u8.wrap (n.tdiv 16) ∧ IntKind.u8.wrap (n.tdiv 16) ≤ IntKind.u8.wrap (IntKind.u8.wrap (n.tdiv 16) + 1) ∧ IntKind.u8.wrap (IntKind.u8.wrap (n.tdiv 16) + 1) ≤ 16 := by
  rw [tdiv_pos n 16 h.1 (by decide), wrap8 (n := n / 16) (by omega) (by omega), wrap8 (by omega) (by omega)]; omega
theorem r16 (n : Int) (h : 0 ≤ n ∧ n < 256) : 0 ≤ n.tmod 16 ∧ n.tmod 16 ≤ IntKind.u8.wrap (n.tmod 16 + 1) ∧ IntKind.u8.wrap (n.tmod 16 + 1) ≤ 16 := by
  rw [tmod_pos n 16 h.1, wrap8 (by omega) (by omega)]; omega
theorem byte_ofI (u : Int) (h : 0 ≤ u) : ofI (IntKind.u8.wrap (u.tmod 256)) = UInt8.ofNat (u.toNat % 256) := by
  rw [tmod_pos u 256 h, wrap8 (by omega) (by omega)]
  unfold ofI
  congr 1
  omega
theorem be_next (n : Nat) (u : Int) (h : 0 ≤ u) : be (n + 1) u.toNat = be n (u / 256).toNat ++ [UInt8.ofNat (u.toNat % 256)] := by
  rw [be, show u.toNat / 256 = (u / 256).toNat by omega]
/-- The last digit of a number below 0. -/
theorem dec_more (n : Int) (h : n ≤ -10) (h2 : -9223372036854775808 ≤ n) : decB n = decB (n.tdiv 10) ++ natB (-(n.tmod 10)).toNat := by
  have e1 : n.tdiv 10 = -((-n) / 10) := by
    have := Int.neg_tdiv (-n) 10
    rw [Int.neg_neg] at this
    rw [this, tdiv_pos (-n) 10 (by omega) (by decide)]
  have e2 : n.tmod 10 = -((-n) % 10) := by
    have := Int.neg_tmod (-n) 10
    rw [Int.neg_neg] at this
    rw [this, tmod_pos (-n) 10 (by omega)]
  rw [e1, e2]
  unfold decB
  rw [if_pos (by omega), if_pos (by omega)]
  simp only [Int.neg_neg]
  rw [natB_more (u := -n) (by omega) (by omega), natB_one (u := -n % 10) (by omega) (by omega)]
  rw [show (-n % 10 % 10) = -n % 10 by omega]
  rfl
theorem dec_small (n : Int) (h : n < 0) : decB n = [45] ++ natB (-n).toNat := by unfold decB; rw [if_pos h]; rfl
theorem dec_pos (n : Int) (h : 0 ≤ n) : decB n = natB n.toNat := by unfold decB; rw [if_neg (by omega)]
theorem natB_length (n : Nat) : (natB n).length ≤ 20 := natF_length 20 n

/-! #### Texts by kind -/
theorem simp1 {v : GV} (h : v.kind = 1) : strOf (simpB v) = v.text := by unfold simpB; rw [if_pos h, strOf_lst]
theorem simp2 {v : GV} (h : v.kind = 2) (hn : v.num = 0) : simpB v = [102, 97, 108, 115, 101] := by unfold simpB; rw [if_neg (by omega), if_pos h, if_pos hn]
theorem simp2' {v : GV} (h : v.kind = 2) (hn : v.num ≠ 0) : simpB v = [116, 114, 117, 101] := by unfold simpB; rw [if_neg (by omega), if_pos h, if_neg hn]
theorem simp3 {v : GV} (h : v.kind = 3) : simpB v = decB v.num := by unfold simpB; rw [if_neg (by omega), if_neg (by omega), if_pos h]
theorem simp4 {v : GV} (h : v.kind = 4) : simpB v = 48 :: 120 :: hexB (be 8 v.bits.toNat) := by unfold simpB; rw [if_neg (by omega), if_neg (by omega), if_neg (by omega), if_pos h]
theorem simp5 {v : GV} (h : v.kind = 5) : simpB v = hexB (lst v.text) := by unfold simpB; rw [if_neg (by omega), if_neg (by omega), if_neg (by omega), if_neg (by omega), if_pos h]
theorem simp6 {v : GV} (h : v.kind ≠ 1 ∧ v.kind ≠ 2 ∧ v.kind ≠ 3 ∧ v.kind ≠ 4 ∧ v.kind ≠ 5) : simpB v = [] := by unfold simpB; rw [if_neg (by omega), if_neg (by omega), if_neg (by omega), if_neg (by omega), if_neg (by omega)]
theorem json0 {v : GV} (h : v.kind = 0) : jsonB v = [110, 117, 108, 108] := by rw [jsonB_eq, if_pos h]
theorem jsonS {v : GV} (h : v.kind = 1 ∨ v.kind = 4 ∨ v.kind = 5) : jsonB v = quoteB (simpB v) := by rw [jsonB_eq, if_neg (by omega), if_pos h]
theorem json6 {v : GV} (h : v.kind = 6) : jsonB v = 91 :: (jsonVs true v.list ++ [93]) := by rw [jsonB_eq, if_neg (by omega), if_neg (by omega), if_pos h]
theorem json7 {v : GV} (h : v.kind = 7) : jsonB v = 123 :: (jsonAs true v.map ++ [125]) := by rw [jsonB_eq, if_neg (by omega), if_neg (by omega), if_neg (by omega), if_pos h]
theorem jsonE {v : GV} (h : v.kind ≠ 0 ∧ ¬ (v.kind = 1 ∨ v.kind = 4 ∨ v.kind = 5) ∧ v.kind ≠ 6 ∧ v.kind ≠ 7) : jsonB v = simpB v := by rw [jsonB_eq, if_neg h.1, if_neg h.2.1, if_neg h.2.2.1, if_neg h.2.2.2]
theorem text6 {v : GV} (h : v.kind = 6 ∨ v.kind = 7) : textM v = strOf (jsonB v) := by unfold textM textB; rw [if_pos h]
theorem textE {v : GV} (h : ¬ (v.kind = 6 ∨ v.kind = 7)) : textM v = strOf (simpB v) := by unfold textM textB; rw [if_neg h]

/-! #### Rows -/
def nth {α : Type} (l : List α) (i : Nat) (d : α) : α := l.getD i d
theorem nth_get {α : Type} {l : List α} {i : Nat} {d : α} (h : i < l.length) : l[i]? = some (nth l i d) := by
  unfold nth
  rw [List.getD_eq_getElem?_getD, List.getElem?_eq_getElem h]; rfl
theorem nth_mem {α : Type} {l : List α} {i : Nat} {d : α} (h : i < l.length) : nth l i d ∈ l := List.mem_of_getElem? (nth_get h)
theorem nth_map {α β : Type} {l : List α} {i : Nat} {d : α} {f : α → β} (h : i < l.length) : (l.map f)[((i : Nat) : Int).toNat]? = some (f (nth l i d)) := by
  rw [Int.toNat_natCast, List.getElem?_map, nth_get h]; rfl
def v0 : GV := .mk 0 ⟨#[]⟩ 0 0 [] []
def a0 : GA := .mk ⟨#[]⟩ v0
def nthV (l : List GV) (i : Nat) : GV := nth l i v0
def nthA (l : List GA) (i : Nat) : GA := nth l i a0
theorem ixV {l : List GV} {i : Nat} (h : i < l.length) : (l.map avV)[((i : Nat) : Int).toNat]? = some (nthV l i).av := by rw [nth_map (d := v0) h, avV_eq]; rfl
theorem ixA {l : List GA} {i : Nat} (h : i < l.length) : (l.map avA)[((i : Nat) : Int).toNat]? = some (nthA l i).av := by rw [nth_map (d := a0) h, avA_eq]; rfl
theorem nthV_mem {l : List GV} {i : Nat} (h : i < l.length) : nthV l i ∈ l := nth_mem h
theorem nthA_mem {l : List GA} {i : Nat} (h : i < l.length) : nthA l i ∈ l := nth_mem h
theorem jsonVs_take {l : List GV} {i : Nat} (h : i < l.length) : jsonVs true (l.take (i + 1)) = jsonVs true (l.take i) ++ comma (i == 0) ++ jsonB (nthV l i) := by
  rw [take_snoc (nth_get (d := v0) h), jsonVs_snoc]
  congr 3
  cases i with
  | zero => rfl
  | succ i => cases l with
    | nil => simp at h
    | cons x xs => simp
theorem jsonAs_take {l : List GA} {i : Nat} (h : i < l.length) : jsonAs true (l.take (i + 1)) = jsonAs true (l.take i) ++ comma (i == 0) ++ jsonA (nthA l i) := by
  rw [take_snoc (nth_get (d := a0) h), jsonAs_snoc]
  congr 3
  cases i with
  | zero => rfl
  | succ i => cases l with
    | nil => simp at h
    | cons x xs => simp
theorem jsonVs_len : ∀ (l : List GV) (f : Bool), (jsonVs f l).length ≤ 150 * wtVs l
  | [], f => by simp [jsonVs]
  | x :: xs, f => by
    simp only [jsonVs, wtVs, List.length_append]
    have := json_len x; have := jsonVs_len xs false; have := comma_length f; omega
theorem jsonA_len (a : GA) : (jsonA a).length + 1 ≤ 150 * a.wt := by
  have := json_len a.val; have := a.wt_eq; have := quoteB_length (lst a.key); have := lst_len a.key
  rw [jsonA_eq]; simp only [List.length_append, List.length_cons, List.length_nil]; omega
theorem jsonAs_len : ∀ (l : List GA) (f : Bool), (jsonAs f l).length ≤ 150 * wtAs l
  | [], f => by simp [jsonAs]
  | x :: xs, f => by
    simp only [jsonAs, wtAs, List.length_append]
    have := jsonA_len x; have := jsonAs_len xs false; have := comma_length f; omega
theorem wtVs_take (l : List GV) (i : Nat) : wtVs (l.take i) ≤ wtVs l := by
  have := wtVs_append (l.take i) (l.drop i); rw [List.take_append_drop] at this; omega
theorem wtAs_take (l : List GA) (i : Nat) : wtAs (l.take i) ≤ wtAs l := by
  have := wtAs_append (l.take i) (l.drop i); rw [List.take_append_drop] at this; omega
theorem wtVs_nth {l : List GV} {i : Nat} (h : i < l.length) : wtVs (l.take i) + (nthV l i).wt ≤ wtVs l := by
  have := wtVs_take l (i + 1); rw [take_snoc (nth_get (d := v0) h), wtVs_append] at this; simp only [wtVs, Nat.add_zero] at this; exact this
theorem wtAs_nth {l : List GA} {i : Nat} (h : i < l.length) : wtAs (l.take i) + (nthA l i).wt ≤ wtAs l := by
  have := wtAs_take l (i + 1); rw [take_snoc (nth_get (d := a0) h), wtAs_append] at this; simp only [wtAs, Nat.add_zero] at this; exact this

/-! #### The reference's quoting -/
theorem resc1 {t s : ByteArray} {i : Nat} {c : UInt8} (h : (lst s)[i]? = some c) (hq : (c.toNat : Int) = 34 ∨ (c.toNat : Int) = 92) : lst (t ++ ⟨#[92]⟩ ++ s.extract i (i + 1)) = lst t ++ escB c := by
  rw [esc_quote hq, lst_app, lst_app, lst_ext1 s i c h, List.append_assoc]; rfl
theorem resc2 {t s : ByteArray} {i : Nat} {c : UInt8} (h : (lst s)[i]? = some c) (h1 : (c.toNat : Int) ≠ 34) (h2 : (c.toNat : Int) ≠ 92) (h3 : (c.toNat : Int) < 32) : lst (t ++ ⟨#[92, 117, 48, 48]⟩ ++ strOf (hexB (lst (s.extract i (i + 1))))) = lst t ++ escB c := by
  rw [esc_low h1 h2 h3, lst_app, lst_app, lst_ext1 s i c h, lst_strOf, List.append_assoc]; rfl
theorem resc3 {t s : ByteArray} {i : Nat} {c : UInt8} (h : (lst s)[i]? = some c) (h1 : (c.toNat : Int) ≠ 34) (h2 : (c.toNat : Int) ≠ 92) (h3 : ¬ (c.toNat : Int) < 32) : lst (t ++ s.extract i (i + 1)) = lst t ++ escB c := by
  rw [esc_plain h1 h2 h3, lst_app, lst_ext1 s i c h]
end Go.Proofs
namespace Go.Proofs
open Go Go.Al

/-! ### What is left of an allowance -/
def leftF (L : Int) (k : Nat) : Int := if (k : Int) ≤ L then L - k else -1
theorem leftF_bd {L : Int} (h : -1 ≤ L) (k : Nat) : -1 ≤ leftF L k ∧ leftF L k ≤ L := by unfold leftF; split <;> omega
theorem leftV_F (v : GV) (n : Int) : leftV v n = if n < 0 then -1 else leftF n v.wt := rfl
theorem leftAs_F (l : List GA) (n : Int) : leftAs l n = if n < 0 then n else leftF n (wtAs l) := rfl
theorem leftF_zero {L : Int} (h : -1 ≤ L) : leftF L 0 = L := by unfold leftF; split <;> omega
theorem leftV_bd (v : GV) {n : Int} (h : -1 ≤ n) : -1 ≤ leftV v n ∧ leftV v n ≤ n := by rw [leftV_F]; split; omega; exact leftF_bd h _
theorem leftAs_bd (l : List GA) {n : Int} (h : -1 ≤ n) : -1 ≤ leftAs l n ∧ leftAs l n ≤ n := by rw [leftAs_F]; split; omega; exact leftF_bd h _

theorem leftV_step {l : List GV} {L : Int} {i : Nat} (hi : i < l.length) (h : 0 ≤ leftF L (wtVs (l.take i))) : leftV (nthV l i) (leftF L (wtVs (l.take i))) = leftF L (wtVs (l.take (i + 1))) := by
  have e : wtVs (l.take (i + 1)) = wtVs (l.take i) + (nthV l i).wt := by
    rw [take_snoc (nth_get (d := v0) hi), wtVs_append]; simp only [wtVs, Nat.add_zero]; rfl
  rw [leftV_F, e]
  unfold leftF at *
  split <;> (try split) <;> (try split) <;> (try split) <;> omega
theorem leftV_fin {v : GV} {n : Int} {i : Nat} (hn : ¬ n < 0) (ht : ¬ (v.text.size : Int) > n) (hi : i = v.list.length ∨ leftF (n - 1 - v.text.size) (wtVs (v.list.take i)) < 0) : leftAs v.map (leftF (n - 1 - v.text.size) (wtVs (v.list.take i))) = leftV v n := by
  have h1 := wtVs_take v.list i
  have e := v.wt_eq
  rw [leftAs_F, leftV_F, if_neg hn]
  have h2 : i = v.list.length → wtVs (v.list.take i) = wtVs v.list := fun h => by rw [h, List.take_length]
  unfold leftF at *
  split <;> (try split) <;> (try split) <;> (try split) <;> omega
theorem leftAs_zero (l : List GA) {n : Int} (h : -1 ≤ n) : leftAs (l.take 0) n = n := by rw [leftAs_F]; split; rfl; exact leftF_zero h
theorem leftAs_step {l : List GA} {n : Int} {i : Nat} (hi : i < l.length) (h : 0 ≤ leftAs (l.take i) n) (hk : ¬ ((nthA l i).key.size : Int) > leftAs (l.take i) n) : leftV (nthA l i).val (leftAs (l.take i) n - (nthA l i).key.size) = leftAs (l.take (i + 1)) n := by
  have e : wtAs (l.take (i + 1)) = wtAs (l.take i) + (nthA l i).wt := by
    rw [take_snoc (nth_get (d := a0) hi), wtAs_append]; simp only [wtAs, Nat.add_zero]; rfl
  have e2 := (nthA l i).wt_eq
  rw [leftV_F, leftAs_F, leftAs_F, e] at *
  unfold leftF at *
  split <;> (try split) <;> (try split) <;> (try split) <;> (try split) <;> omega
theorem leftAs_out {l : List GA} {n : Int} {i : Nat} (hi : i < l.length) (h : 0 ≤ leftAs (l.take i) n) (hk : ((nthA l i).key.size : Int) > leftAs (l.take i) n) : (-1 : Int) = leftAs l n := by
  have q := wtAs_nth hi
  have e2 := (nthA l i).wt_eq
  have q2 := wtAs_take l i
  rw [leftAs_F] at *
  unfold leftF at *
  split <;> (try split) <;> (try split) <;> (try split) <;> omega
theorem leftAs_fin {l : List GA} {n : Int} {i : Nat} (hn : -1 ≤ n) (hi : i = l.length ∨ leftAs (l.take i) n < 0) : leftAs (l.take i) n = leftAs l n := by
  rcases hi with rfl | h
  · rw [List.take_length]
  · have q2 := wtAs_take l i
    rw [leftAs_F] at *
    rw [leftAs_F]
    unfold leftF at *
    split <;> (try split) <;> (try split) <;> (try split) <;> omega
theorem leftF_le {L : Int} {k : Nat} (h : 0 ≤ leftF L k) : (k : Int) ≤ L := by unfold leftF at h; split at h <;> omega
theorem leftV_len {l : List GV} {L : Int} {i : Nat} (h : 0 ≤ leftF L (wtVs (l.take i))) (hi : i ≤ l.length) : (i : Int) ≤ L := by
  have := leftF_le h
  have := len_wtVs (l.take i)
  rw [List.length_take] at this
  omega
theorem leftAs_len {l : List GA} {n : Int} {i : Nat} (h : 0 ≤ leftAs (l.take i) n) (hi : i ≤ l.length) : (i : Int) ≤ n := by
  rw [leftAs_F] at h
  have := len_wtAs (l.take i)
  rw [List.length_take] at this
  split at h
  · omega
  · have := leftF_le h; omega
end Go.Proofs
namespace Go.Proofs
open Go Go.Al

/-! ### Rows of spans and the like -/
def ge0 : GE := ⟨0, ⟨#[]⟩, []⟩
def gl0 : GL := ⟨[], [], ⟨#[]⟩, []⟩
def gs0 : GSpan := ⟨[], [], [], ⟨#[]⟩, ⟨#[]⟩, 0, 0, 0, [], [], [], 0, ⟨#[]⟩⟩
def gc0 : GScope := ⟨⟨#[]⟩, ⟨#[]⟩, []⟩
def gr0 : GRes := ⟨[], []⟩
def nthE (l : List GE) (i : Nat) : GE := nth l i ge0
def nthL (l : List GL) (i : Nat) : GL := nth l i gl0
def nthS (l : List GSpan) (i : Nat) : GSpan := nth l i gs0
def nthC (l : List GScope) (i : Nat) : GScope := nth l i gc0
def nthR (l : List GRes) (i : Nat) : GRes := nth l i gr0
theorem ixE {l : List GE} {i : Nat} (h : i < l.length) : (l.map GE.av)[((i : Nat) : Int).toNat]? = some (nthE l i).av := nth_map h
theorem ixL {l : List GL} {i : Nat} (h : i < l.length) : (l.map GL.av)[((i : Nat) : Int).toNat]? = some (nthL l i).av := nth_map h
theorem ixS {l : List GSpan} {i : Nat} (h : i < l.length) : (l.map GSpan.av)[((i : Nat) : Int).toNat]? = some (nthS l i).av := nth_map h
theorem ixC {l : List GScope} {i : Nat} (h : i < l.length) : (l.map GScope.av)[((i : Nat) : Int).toNat]? = some (nthC l i).av := nth_map h
theorem ixR {l : List GRes} {i : Nat} (h : i < l.length) : (l.map GRes.av)[((i : Nat) : Int).toNat]? = some (nthR l i).av := nth_map h
theorem nthE_mem {l : List GE} {i : Nat} (h : i < l.length) : nthE l i ∈ l := nth_mem h
theorem nthL_mem {l : List GL} {i : Nat} (h : i < l.length) : nthL l i ∈ l := nth_mem h
theorem nthS_mem {l : List GSpan} {i : Nat} (h : i < l.length) : nthS l i ∈ l := nth_mem h
theorem nthC_mem {l : List GScope} {i : Nat} (h : i < l.length) : nthC l i ∈ l := nth_mem h
theorem nthR_mem {l : List GRes} {i : Nat} (h : i < l.length) : nthR l i ∈ l := nth_mem h

theorem sumBy_take {α : Type} (F : α → Nat) (l : List α) (i : Nat) : sumBy F (l.take i) ≤ sumBy F l := by
  have := sumBy_append F (l.take i) (l.drop i); rw [List.take_append_drop] at this; omega
theorem sumBy_nth {α : Type} {F : α → Nat} {l : List α} {i : Nat} {d : α} (h : i < l.length) : sumBy F (l.take (i + 1)) = sumBy F (l.take i) + F (nth l i d) := by
  rw [take_snoc (nth_get (d := d) h), sumBy_append]; simp [sumBy]
theorem sumBy_nth_le {α : Type} {F : α → Nat} {l : List α} {i : Nat} {d : α} (h : i < l.length) : sumBy F (l.take i) + F (nth l i d) ≤ sumBy F l := by
  rw [← sumBy_nth h]; exact sumBy_take F l _

/-! ### Weights -/
def attrW (a : GA) : Nat := 64 + 6 * a.key.size + 12 * (textM a.val).size
def evW (e : GE) : Nat := 64 + 6 * e.name.size + attrsW e.attrs
def lkW (e : GL) : Nat := 64 + 6 * e.state.size + attrsW e.attrs
theorem attrsW_sum : ∀ l : List GA, attrsW l = sumBy attrW l
  | [] => rfl
  | x :: xs => by rw [attrsW, sumBy, attrsW_sum xs]; rfl
theorem spanW_eq (s : GSpan) (t : ByteArray) : spanW s t = 512 + 6 * (t.size + s.state.size + s.name.size + s.note.size) + attrsW s.attrs + sumBy evW s.events + sumBy lkW s.links := rfl
theorem attrW_le (a : GA) : attrW a ≤ 2000 * a.wt := by
  have := attrsW_le [a]
  simpa [attrsW, wtAs, attrW] using this
theorem evW_le (e : GE) : evW e ≤ 2000 * e.wt := by
  unfold evW GE.wt; have := attrsW_le e.attrs; omega
theorem lkW_le (e : GL) : lkW e ≤ 2000 * e.wt := by
  unfold lkW GL.wt; have := attrsW_le e.attrs; omega
theorem sumBy_le2 {α : Type} {F G : α → Nat} {k : Nat} (h : ∀ x, F x ≤ k * G x) : ∀ l : List α, sumBy F l ≤ k * sumBy G l
  | [] => by simp [sumBy]
  | x :: xs => by simp only [sumBy, Nat.mul_add]; have := h x; have := sumBy_le2 h xs; omega
theorem spanW_le (s : GSpan) (t : ByteArray) (h : t.size ≤ 10000000) : spanW s t ≤ 100000000 * s.wt := by
  rw [spanW_eq]
  unfold GSpan.wt
  have := attrsW_le s.attrs
  have := sumBy_le2 evW_le s.events
  have := sumBy_le2 lkW_le s.links
  omega
theorem scopeW_le (s : GScope) (t : ByteArray) (h : t.size ≤ 10000000) : scopeW s t ≤ 100000000 * s.wt := by
  unfold scopeW GScope.wt
  have := sumBy_le2 (k := 100000000) (fun x => spanW_le x t h) s.spans
  omega
theorem resW_le (r : GRes) (h : (serviceM r).size ≤ 10000000) : resW r ≤ 100000000 * r.wt := by
  unfold resW GRes.wt
  have := attrsW_le r.attrs
  have := sumBy_le2 (k := 100000000) (fun x => scopeW_le x (serviceM r) h) r.scopes
  omega
theorem getA_mem : ∀ {l : List GA} {k : ByteArray} {v : GV}, getA l k = some v → ∃ a ∈ l, a.val = v ∧ a.key = k
  | x :: xs, k, v, h => by
    rw [getA] at h
    split at h
    · rename_i hk; cases h; exact ⟨x, List.mem_cons_self, rfl, hk⟩
    · obtain ⟨a, h1, h2⟩ := getA_mem h; exact ⟨a, List.mem_cons_of_mem _ h1, h2⟩
theorem textA_le (l : List GA) (k : ByteArray) : (textA l k).size ≤ 150 * wtAs l := by
  unfold textA
  cases h : getA l k with
  | none => exact Nat.zero_le _
  | some v =>
    obtain ⟨a, h1, rfl, _⟩ := getA_mem h
    have := wtAs_mem h1
    have := a.wt_eq
    have : (textM a.val).size ≤ 150 * a.val.wt := by rw [textM, strOf_size]; exact textB_length _
    simp only [Option.getD_some]; omega
theorem textM_le (v : GV) : (textM v).size ≤ 150 * v.wt := by rw [textM, strOf_size]; exact textB_length _
theorem serviceM_le (r : GRes) : (serviceM r).size ≤ 150 * r.wt := by
  have := textA_le r.attrs skey
  unfold serviceM GRes.wt; omega
theorem nthA_ok {l : List GA} (h : ∀ a ∈ l, a.ok) {i : Nat} (hi : i < l.length) : (nthA l i).ok := h _ (nthA_mem hi)

/-! ### Wide structures, whole -/
theorem getS_w {X : AV} {n : Nat} (h : X.width = n) (ha : (SV.imm X).isAgg = true) : getS 8 (.imm X) 0 n true = some (.imm X) := by
  unfold getS
  exact if_pos ⟨rfl, by rw [SV.width]; exact h, ha⟩
theorem setS_w {X Y : AV} (h : X.width = Y.width) (ha : (SV.imm X).isAgg = (SV.imm Y).isAgg) : setS 8 (.imm X) 0 (.imm Y) = some (.imm Y) := by
  unfold setS
  exact if_pos ⟨rfl, by rw [SV.width, SV.width]; exact h, ha⟩
theorem beqW {a b : Nat} (h : a = b) : Nat.beq a b = true := by subst h; exact Nat.beq_refl a
theorem GSpan.width (s : GSpan) : s.av.width = 42 := by
  simp only [GSpan.av, AV.width, AV.widths, sv, iv, uv]; rfl
theorem GL.width (s : GL) : s.av.width = 26 := by
  simp only [GL.av, AV.width, AV.widths, sv, iv, uv]; rfl
end Go.Proofs
namespace Go.Proofs
open Go Go.Al

/-! ### A key's place in a list of rising keys -/
theorem cmp_bl : ∀ a b : Bs, (Lib.compareBytes a b < 0 ↔ Op.bytesLess a b = true) ∧ (Lib.compareBytes a b = 0 ↔ a = b)
  | [], [] => by simp [Lib.compareBytes, Op.bytesLess]
  | [], _ :: _ => by simp [Lib.compareBytes, Op.bytesLess]
  | _ :: _, [] => by simp [Lib.compareBytes, Op.bytesLess]
  | x :: a, y :: b => by
    have ih := cmp_bl a b
    simp only [Lib.compareBytes, Op.bytesLess]
    by_cases h : x < y
    · have : ¬ x = y := by rintro rfl; exact absurd h (UInt8.lt_irrefl _)
      simp [h, this]
    · by_cases h2 : y < x
      · have : ¬ x = y := by rintro rfl; exact absurd h2 (UInt8.lt_irrefl _)
        simp [h, h2, this]
      · have : x = y := UInt8.le_antisymm (UInt8.not_lt.1 h2) (UInt8.not_lt.1 h)
        subst this
        simp [h, ih.1, ih.2]
def cmpK (s t : ByteArray) : Int := Lib.compareBytes s.data.toList t.data.toList
theorem cmpK_lt (s t : ByteArray) : cmpK s t < 0 ↔ ltB s t = true := (cmp_bl _ _).1
theorem cmpK_eq (s t : ByteArray) : cmpK s t = 0 ↔ s = t := (cmp_bl _ _).2.trans ⟨str_ext, fun h => by rw [h]⟩

def posA : List GA → ByteArray → Nat
  | [], _ => 0
  | x :: xs, k => if ltB x.key k then posA xs k + 1 else 0
theorem posA_le : ∀ (l : List GA) (k : ByteArray), posA l k ≤ l.length
  | [], _ => Nat.le_refl _
  | x :: xs, k => by rw [posA]; split; (have := posA_le xs k; simp; omega); simp
theorem posA_spec : ∀ (l : List GA) (k : ByteArray) (lo : Nat), lo ≤ l.length → (∀ i, i < lo → ltB (nthA l i).key k = true) → (∀ i, lo ≤ i → i < l.length → ltB (nthA l i).key k = false) → lo = posA l k
  | [], k, lo, h1, _, _ => by simpa [posA] using h1
  | x :: xs, k, 0, h1, h2, h3 => by
    have := h3 0 (Nat.le_refl _) (by simp)
    rw [posA, if_neg (by simpa [nthA, nth] using this)]
  | x :: xs, k, lo + 1, h1, h2, h3 => by
    have h4 := h2 0 (by omega)
    rw [posA, if_pos (by simpa [nthA, nth] using h4)]
    rw [posA_spec xs k lo (by simpa using h1) (fun i hi => by have := h2 (i + 1) (by omega); simpa [nthA, nth] using this) (fun i hi hl => by have := h3 (i + 1) (by omega) (by simp; omega); simpa [nthA, nth] using this)]
theorem ris_nth : ∀ {l : List GA} {p : Option ByteArray}, risA p l → ∀ {i j : Nat}, i < j → j < l.length → ltB (nthA l i).key (nthA l j).key = true
  | x :: xs, p, h, 0, j + 1, _, hj => by
    have := risA_mem h.2 (nthA xs j) (nthA_mem (by simpa using hj))
    simpa [nthA, nth] using this
  | x :: xs, p, h, i + 1, j + 1, hij, hj => by
    have := ris_nth h.2 (i := i) (j := j) (by omega) (by simpa using hj)
    simpa [nthA, nth] using this
theorem ris_left {l : List GA} (h : risA none l) {k : ByteArray} {m i : Nat} (hm : m < l.length) (hk : ltB (nthA l m).key k = true) (hi : i ≤ m) : ltB (nthA l i).key k = true := by
  rcases Nat.lt_or_ge i m with h1 | h1
  · exact ltB_trans (ris_nth h h1 hm) hk
  · rw [show i = m by omega]; exact hk
theorem ris_right {l : List GA} (h : risA none l) {k : ByteArray} {m i : Nat} (hk : ltB (nthA l m).key k = false) (hi : m ≤ i) (hl : i < l.length) : ltB (nthA l i).key k = false := by
  rcases Nat.lt_or_ge m i with h1 | h1
  · cases hq : ltB (nthA l i).key k with
    | false => rfl
    | true => rw [ltB_trans (ris_nth h h1 hl) hq] at hk; cases hk
  · rw [show i = m by omega]; exact hk
def hasA (l : List GA) (k : ByteArray) : Bool := decide (posA l k < l.length) && decide ((nthA l (posA l k)).key = k)
theorem getA_pos : ∀ {l : List GA} {p : Option ByteArray} (h : risA p l) (k : ByteArray), getA l k = if hasA l k then some (nthA l (posA l k)).val else none
  | [], _, _, k => by simp [getA, hasA, posA]
  | x :: xs, p, h, k => by
    rw [getA, hasA, posA]
    by_cases hx : ltB x.key k = true
    · have hne : ¬ x.key = k := by intro e; rw [e, ltB_irrefl] at hx; cases hx
      rw [if_neg hne, getA_pos h.2 k, hasA]
      simp only [hx, if_true]
      simp [nthA, nth]
    · simp only [hx]
      by_cases he : x.key = k
      · simp [he, nthA, nth]
      · have hno : getA xs k = none := by
          cases hg : getA xs k with
          | none => rfl
          | some v =>
            obtain ⟨a, ha, _, hk⟩ := getA_mem hg
            have := risA_mem h.2 a ha
            rw [hk] at this
            exact absurd this hx
        simp [he, hno, nthA, nth]
theorem getA_drop {l : List GA} {k : ByteArray} {i : Nat} (h : i < l.length) : getA (l.drop i) k = if (nthA l i).key = k then some (nthA l i).val else getA (l.drop (i + 1)) k := by
  have e : nthA l i = l[i] := by unfold nthA nth; rw [List.getD_eq_getElem?_getD, List.getElem?_eq_getElem h]; rfl
  rw [List.drop_eq_getElem_cons h, getA, e]
end Go.Proofs
