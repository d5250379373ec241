import PyProof.Rows.All
import Wide.All
import OpenK.AllK
import Wide.FinOn
import KE.KIsAll
import KE.KDictList
import Lean
import PySem.Challenge.RW_sq0005_01
set_option Elab.async false
set_option linter.all false
set_option bootstrap.genMatcherCode false
set_option genSizeOfSpec false
set_option genInjectivity false
set_option compiler.extract_closed false
set_option compiler.reuse false
set_option tactic.hygienic false
set_option hygiene false
set_option tactic.hygienic false
namespace Mine.Internal
theorem u0_2 {S T:Prop} {P:Prop} (h:S∧T) (k:S→T→P):P:=k h.1 h.2
theorem u0_3 {S T U:Prop} {P:Prop} (h:S∧T∧U) (k:S→T→U→P):P:=k h.1 h.2.1 h.2.2
theorem i0_3 {S T U:Prop} (l:S) (m:T) (n:U):S∧T∧U:=⟨l,m,n⟩
theorem u0_4 {S T U V:Prop} {P:Prop} (h:S∧T∧U∧V) (k:S→T→U→V→P):P:=k h.1 h.2.1 h.2.2.1 h.2.2.2
theorem i0_4 {S T U V:Prop} (l:S) (m:T) (n:U) (o:V):S∧T∧U∧V:=⟨l,m,n,o⟩
theorem i0_5 {S T U V W:Prop} (l:S) (m:T) (n:U) (o:V) (r:W):S∧T∧U∧V∧W:=⟨l,m,n,o,r⟩
theorem u0_6 {S T U V W X:Prop} {P:Prop} (h:S∧T∧U∧V∧W∧X) (k:S→T→U→V→W→X→P):P:=k h.1 h.2.1 h.2.2.1 h.2.2.2.1 h.2.2.2.2.1 h.2.2.2.2.2
theorem i0_6 {S T U V W X:Prop} (l:S) (m:T) (n:U) (o:V) (r:W) (s:X):S∧T∧U∧V∧W∧X:=⟨l,m,n,o,r,s⟩
theorem u0_9 {S T U V W X Y Z Q:Prop} {P:Prop} (h:S∧T∧U∧V∧W∧X∧Y∧Z∧Q) (k:S→T→U→V→W→X→Y→Z→Q→P):P:=k h.1 h.2.1 h.2.2.1 h.2.2.2.1 h.2.2.2.2.1 h.2.2.2.2.2.1 h.2.2.2.2.2.2.1 h.2.2.2.2.2.2.2.1 h.2.2.2.2.2.2.2.2
theorem u1_1 {A:Sort _} {S:A→Prop} {P:Prop} (h:∃ a,S a) (k:∀ a,S a→P):P:=h.elim λa h=>k a h
theorem u1_2 {A:Sort _} {S T:A→Prop} {P:Prop} (h:∃ a,S a∧T a) (k:∀ a,S a→T a→P):P:=h.elim λa h=>k a h.1 h.2
theorem i1_2 {A:Sort _} {S T:A→Prop} (a:A) (l:S a) (m:T a):∃ a,S a∧T a:=⟨a,l,m⟩
theorem u1_3 {A:Sort _} {S T U:A→Prop} {P:Prop} (h:∃ a,S a∧T a∧U a) (k:∀ a,S a→T a→U a→P):P:=h.elim λa h=>k a h.1 h.2.1 h.2.2
theorem i1_3 {A:Sort _} {S T U:A→Prop} (a:A) (l:S a) (m:T a) (n:U a):∃ a,S a∧T a∧U a:=⟨a,l,m,n⟩
theorem u1_4 {A:Sort _} {S T U V:A→Prop} {P:Prop} (h:∃ a,S a∧T a∧U a∧V a) (k:∀ a,S a→T a→U a→V a→P):P:=h.elim λa h=>k a h.1 h.2.1 h.2.2.1 h.2.2.2
theorem i1_4 {A:Sort _} {S T U V:A→Prop} (a:A) (l:S a) (m:T a) (n:U a) (o:V a):∃ a,S a∧T a∧U a∧V a:=⟨a,l,m,n,o⟩
theorem u1_5 {A:Sort _} {S T U V W:A→Prop} {P:Prop} (h:∃ a,S a∧T a∧U a∧V a∧W a) (k:∀ a,S a→T a→U a→V a→W a→P):P:=h.elim λa h=>k a h.1 h.2.1 h.2.2.1 h.2.2.2.1 h.2.2.2.2
theorem u2_1 {A B:Sort _} {S:A→B→Prop} {P:Prop} (h:∃ a b,S a b) (k:∀ a b,S a b→P):P:=h.elim λa h=>h.elim λb h=>k a b h
theorem i2_1 {A B:Sort _} {S:A→B→Prop} (a:A) (b:B) (l:S a b):∃ a b,S a b:=⟨a,b,l⟩
theorem u2_2 {A B:Sort _} {S T:A→B→Prop} {P:Prop} (h:∃ a b,S a b∧T a b) (k:∀ a b,S a b→T a b→P):P:=h.elim λa h=>h.elim λb h=>k a b h.1 h.2
theorem i2_2 {A B:Sort _} {S T:A→B→Prop} (a:A) (b:B) (l:S a b) (m:T a b):∃ a b,S a b∧T a b:=⟨a,b,l,m⟩
theorem u2_3 {A B:Sort _} {S T U:A→B→Prop} {P:Prop} (h:∃ a b,S a b∧T a b∧U a b) (k:∀ a b,S a b→T a b→U a b→P):P:=h.elim λa h=>h.elim λb h=>k a b h.1 h.2.1 h.2.2
theorem i2_3 {A B:Sort _} {S T U:A→B→Prop} (a:A) (b:B) (l:S a b) (m:T a b) (n:U a b):∃ a b,S a b∧T a b∧U a b:=⟨a,b,l,m,n⟩
theorem u2_4 {A B:Sort _} {S T U V:A→B→Prop} {P:Prop} (h:∃ a b,S a b∧T a b∧U a b∧V a b) (k:∀ a b,S a b→T a b→U a b→V a b→P):P:=h.elim λa h=>h.elim λb h=>k a b h.1 h.2.1 h.2.2.1 h.2.2.2
theorem i2_4 {A B:Sort _} {S T U V:A→B→Prop} (a:A) (b:B) (l:S a b) (m:T a b) (n:U a b) (o:V a b):∃ a b,S a b∧T a b∧U a b∧V a b:=⟨a,b,l,m,n,o⟩
theorem u2_5 {A B:Sort _} {S T U V W:A→B→Prop} {P:Prop} (h:∃ a b,S a b∧T a b∧U a b∧V a b∧W a b) (k:∀ a b,S a b→T a b→U a b→V a b→W a b→P):P:=h.elim λa h=>h.elim λb h=>k a b h.1 h.2.1 h.2.2.1 h.2.2.2.1 h.2.2.2.2
theorem i2_5 {A B:Sort _} {S T U V W:A→B→Prop} (a:A) (b:B) (l:S a b) (m:T a b) (n:U a b) (o:V a b) (r:W a b):∃ a b,S a b∧T a b∧U a b∧V a b∧W a b:=⟨a,b,l,m,n,o,r⟩
theorem u2_6 {A B:Sort _} {S T U V W X:A→B→Prop} {P:Prop} (h:∃ a b,S a b∧T a b∧U a b∧V a b∧W a b∧X a b) (k:∀ a b,S a b→T a b→U a b→V a b→W a b→X a b→P):P:=h.elim λa h=>h.elim λb h=>k a b h.1 h.2.1 h.2.2.1 h.2.2.2.1 h.2.2.2.2.1 h.2.2.2.2.2
theorem u3_1 {A B C:Sort _} {S:A→B→C→Prop} {P:Prop} (h:∃ a b c,S a b c) (k:∀ a b c,S a b c→P):P:=h.elim λa h=>h.elim λb h=>h.elim λc h=>k a b c h
theorem i3_1 {A B C:Sort _} {S:A→B→C→Prop} (a:A) (b:B) (c:C) (l:S a b c):∃ a b c,S a b c:=⟨a,b,c,l⟩
theorem u3_2 {A B C:Sort _} {S T:A→B→C→Prop} {P:Prop} (h:∃ a b c,S a b c∧T a b c) (k:∀ a b c,S a b c→T a b c→P):P:=h.elim λa h=>h.elim λb h=>h.elim λc h=>k a b c h.1 h.2
theorem i3_2 {A B C:Sort _} {S T:A→B→C→Prop} (a:A) (b:B) (c:C) (l:S a b c) (m:T a b c):∃ a b c,S a b c∧T a b c:=⟨a,b,c,l,m⟩
theorem u3_3 {A B C:Sort _} {S T U:A→B→C→Prop} {P:Prop} (h:∃ a b c,S a b c∧T a b c∧U a b c) (k:∀ a b c,S a b c→T a b c→U a b c→P):P:=h.elim λa h=>h.elim λb h=>h.elim λc h=>k a b c h.1 h.2.1 h.2.2
theorem i3_3 {A B C:Sort _} {S T U:A→B→C→Prop} (a:A) (b:B) (c:C) (l:S a b c) (m:T a b c) (n:U a b c):∃ a b c,S a b c∧T a b c∧U a b c:=⟨a,b,c,l,m,n⟩
theorem u3_4 {A B C:Sort _} {S T U V:A→B→C→Prop} {P:Prop} (h:∃ a b c,S a b c∧T a b c∧U a b c∧V a b c) (k:∀ a b c,S a b c→T a b c→U a b c→V a b c→P):P:=h.elim λa h=>h.elim λb h=>h.elim λc h=>k a b c h.1 h.2.1 h.2.2.1 h.2.2.2
theorem i3_4 {A B C:Sort _} {S T U V:A→B→C→Prop} (a:A) (b:B) (c:C) (l:S a b c) (m:T a b c) (n:U a b c) (o:V a b c):∃ a b c,S a b c∧T a b c∧U a b c∧V a b c:=⟨a,b,c,l,m,n,o⟩
theorem u3_5 {A B C:Sort _} {S T U V W:A→B→C→Prop} {P:Prop} (h:∃ a b c,S a b c∧T a b c∧U a b c∧V a b c∧W a b c) (k:∀ a b c,S a b c→T a b c→U a b c→V a b c→W a b c→P):P:=h.elim λa h=>h.elim λb h=>h.elim λc h=>k a b c h.1 h.2.1 h.2.2.1 h.2.2.2.1 h.2.2.2.2
theorem i3_5 {A B C:Sort _} {S T U V W:A→B→C→Prop} (a:A) (b:B) (c:C) (l:S a b c) (m:T a b c) (n:U a b c) (o:V a b c) (r:W a b c):∃ a b c,S a b c∧T a b c∧U a b c∧V a b c∧W a b c:=⟨a,b,c,l,m,n,o,r⟩
theorem u3_6 {A B C:Sort _} {S T U V W X:A→B→C→Prop} {P:Prop} (h:∃ a b c,S a b c∧T a b c∧U a b c∧V a b c∧W a b c∧X a b c) (k:∀ a b c,S a b c→T a b c→U a b c→V a b c→W a b c→X a b c→P):P:=h.elim λa h=>h.elim λb h=>h.elim λc h=>k a b c h.1 h.2.1 h.2.2.1 h.2.2.2.1 h.2.2.2.2.1 h.2.2.2.2.2
theorem i3_6 {A B C:Sort _} {S T U V W X:A→B→C→Prop} (a:A) (b:B) (c:C) (l:S a b c) (m:T a b c) (n:U a b c) (o:V a b c) (r:W a b c) (s:X a b c):∃ a b c,S a b c∧T a b c∧U a b c∧V a b c∧W a b c∧X a b c:=⟨a,b,c,l,m,n,o,r,s⟩
theorem u3_7 {A B C:Sort _} {S T U V W X Y:A→B→C→Prop} {P:Prop} (h:∃ a b c,S a b c∧T a b c∧U a b c∧V a b c∧W a b c∧X a b c∧Y a b c) (k:∀ a b c,S a b c→T a b c→U a b c→V a b c→W a b c→X a b c→Y a b c→P):P:=h.elim λa h=>h.elim λb h=>h.elim λc h=>k a b c h.1 h.2.1 h.2.2.1 h.2.2.2.1 h.2.2.2.2.1 h.2.2.2.2.2.1 h.2.2.2.2.2.2
theorem i3_7 {A B C:Sort _} {S T U V W X Y:A→B→C→Prop} (a:A) (b:B) (c:C) (l:S a b c) (m:T a b c) (n:U a b c) (o:V a b c) (r:W a b c) (s:X a b c) (t:Y a b c):∃ a b c,S a b c∧T a b c∧U a b c∧V a b c∧W a b c∧X a b c∧Y a b c:=⟨a,b,c,l,m,n,o,r,s,t⟩
theorem u4_1 {A B C D:Sort _} {S:A→B→C→D→Prop} {P:Prop} (h:∃ a b c d,S a b c d) (k:∀ a b c d,S a b c d→P):P:=h.elim λa h=>h.elim λb h=>h.elim λc h=>h.elim λd h=>k a b c d h
theorem i4_1 {A B C D:Sort _} {S:A→B→C→D→Prop} (a:A) (b:B) (c:C) (d:D) (l:S a b c d):∃ a b c d,S a b c d:=⟨a,b,c,d,l⟩
theorem u4_3 {A B C D:Sort _} {S T U:A→B→C→D→Prop} {P:Prop} (h:∃ a b c d,S a b c d∧T a b c d∧U a b c d) (k:∀ a b c d,S a b c d→T a b c d→U a b c d→P):P:=h.elim λa h=>h.elim λb h=>h.elim λc h=>h.elim λd h=>k a b c d h.1 h.2.1 h.2.2
theorem i4_3 {A B C D:Sort _} {S T U:A→B→C→D→Prop} (a:A) (b:B) (c:C) (d:D) (l:S a b c d) (m:T a b c d) (n:U a b c d):∃ a b c d,S a b c d∧T a b c d∧U a b c d:=⟨a,b,c,d,l,m,n⟩
theorem u4_4 {A B C D:Sort _} {S T U V:A→B→C→D→Prop} {P:Prop} (h:∃ a b c d,S a b c d∧T a b c d∧U a b c d∧V a b c d) (k:∀ a b c d,S a b c d→T a b c d→U a b c d→V a b c d→P):P:=h.elim λa h=>h.elim λb h=>h.elim λc h=>h.elim λd h=>k a b c d h.1 h.2.1 h.2.2.1 h.2.2.2
theorem i4_4 {A B C D:Sort _} {S T U V:A→B→C→D→Prop} (a:A) (b:B) (c:C) (d:D) (l:S a b c d) (m:T a b c d) (n:U a b c d) (o:V a b c d):∃ a b c d,S a b c d∧T a b c d∧U a b c d∧V a b c d:=⟨a,b,c,d,l,m,n,o⟩
theorem u4_7 {A B C D:Sort _} {S T U V W X Y:A→B→C→D→Prop} {P:Prop} (h:∃ a b c d,S a b c d∧T a b c d∧U a b c d∧V a b c d∧W a b c d∧X a b c d∧Y a b c d) (k:∀ a b c d,S a b c d→T a b c d→U a b c d→V a b c d→W a b c d→X a b c d→Y a b c d→P):P:=h.elim λa h=>h.elim λb h=>h.elim λc h=>h.elim λd h=>k a b c d h.1 h.2.1 h.2.2.1 h.2.2.2.1 h.2.2.2.2.1 h.2.2.2.2.2.1 h.2.2.2.2.2.2
theorem i4_7 {A B C D:Sort _} {S T U V W X Y:A→B→C→D→Prop} (a:A) (b:B) (c:C) (d:D) (l:S a b c d) (m:T a b c d) (n:U a b c d) (o:V a b c d) (r:W a b c d) (s:X a b c d) (t:Y a b c d):∃ a b c d,S a b c d∧T a b c d∧U a b c d∧V a b c d∧W a b c d∧X a b c d∧Y a b c d:=⟨a,b,c,d,l,m,n,o,r,s,t⟩
theorem u4_9 {A B C D:Sort _} {S T U V W X Y Z Q:A→B→C→D→Prop} {P:Prop} (h:∃ a b c d,S a b c d∧T a b c d∧U a b c d∧V a b c d∧W a b c d∧X a b c d∧Y a b c d∧Z a b c d∧Q a b c d) (k:∀ a b c d,S a b c d→T a b c d→U a b c d→V a b c d→W a b c d→X a b c d→Y a b c d→Z a b c d→Q a b c d→P):P:=h.elim λa h=>h.elim λb h=>h.elim λc h=>h.elim λd h=>k a b c d h.1 h.2.1 h.2.2.1 h.2.2.2.1 h.2.2.2.2.1 h.2.2.2.2.2.1 h.2.2.2.2.2.2.1 h.2.2.2.2.2.2.2.1 h.2.2.2.2.2.2.2.2
theorem u5_4 {A B C D E:Sort _} {S T U V:A→B→C→D→E→Prop} {P:Prop} (h:∃ a b c d e,S a b c d e∧T a b c d e∧U a b c d e∧V a b c d e) (k:∀ a b c d e,S a b c d e→T a b c d e→U a b c d e→V a b c d e→P):P:=h.elim λa h=>h.elim λb h=>h.elim λc h=>h.elim λd h=>h.elim λe h=>k a b c d e h.1 h.2.1 h.2.2.1 h.2.2.2
theorem i5_4 {A B C D E:Sort _} {S T U V:A→B→C→D→E→Prop} (a:A) (b:B) (c:C) (d:D) (e:E) (l:S a b c d e) (m:T a b c d e) (n:U a b c d e) (o:V a b c d e):∃ a b c d e,S a b c d e∧T a b c d e∧U a b c d e∧V a b c d e:=⟨a,b,c,d,e,l,m,n,o⟩
theorem u5_7 {A B C D E:Sort _} {S T U V W X Y:A→B→C→D→E→Prop} {P:Prop} (h:∃ a b c d e,S a b c d e∧T a b c d e∧U a b c d e∧V a b c d e∧W a b c d e∧X a b c d e∧Y a b c d e) (k:∀ a b c d e,S a b c d e→T a b c d e→U a b c d e→V a b c d e→W a b c d e→X a b c d e→Y a b c d e→P):P:=h.elim λa h=>h.elim λb h=>h.elim λc h=>h.elim λd h=>h.elim λe h=>k a b c d e h.1 h.2.1 h.2.2.1 h.2.2.2.1 h.2.2.2.2.1 h.2.2.2.2.2.1 h.2.2.2.2.2.2
theorem u6_1 {A B C D E F:Sort _} {S:A→B→C→D→E→F→Prop} {P:Prop} (h:∃ a b c d e f,S a b c d e f) (k:∀ a b c d e f,S a b c d e f→P):P:=h.elim λa h=>h.elim λb h=>h.elim λc h=>h.elim λd h=>h.elim λe h=>h.elim λf h=>k a b c d e f h
theorem u6_9 {A B C D E F:Sort _} {S T U V W X Y Z Q:A→B→C→D→E→F→Prop} {P:Prop} (h:∃ a b c d e f,S a b c d e f∧T a b c d e f∧U a b c d e f∧V a b c d e f∧W a b c d e f∧X a b c d e f∧Y a b c d e f∧Z a b c d e f∧Q a b c d e f) (k:∀ a b c d e f,S a b c d e f→T a b c d e f→U a b c d e f→V a b c d e f→W a b c d e f→X a b c d e f→Y a b c d e f→Z a b c d e f→Q a b c d e f→P):P:=h.elim λa h=>h.elim λb h=>h.elim λc h=>h.elim λd h=>h.elim λe h=>h.elim λf h=>k a b c d e f h.1 h.2.1 h.2.2.1 h.2.2.2.1 h.2.2.2.2.1 h.2.2.2.2.2.1 h.2.2.2.2.2.2.1 h.2.2.2.2.2.2.2.1 h.2.2.2.2.2.2.2.2
theorem u8_1 {A B C D E F G H:Sort _} {S:A→B→C→D→E→F→G→H→Prop} {P:Prop} (h:∃ a b c d e f g i,S a b c d e f g i) (k:∀ a b c d e f g i,S a b c d e f g i→P):P:=h.elim λa h=>h.elim λb h=>h.elim λc h=>h.elim λd h=>h.elim λe h=>h.elim λf h=>h.elim λg h=>h.elim λi h=>k a b c d e f g i h
theorem u8_9 {A B C D E F G H:Sort _} {S T U V W X Y Z Q:A→B→C→D→E→F→G→H→Prop} {P:Prop} (h:∃ a b c d e f g i,S a b c d e f g i∧T a b c d e f g i∧U a b c d e f g i∧V a b c d e f g i∧W a b c d e f g i∧X a b c d e f g i∧Y a b c d e f g i∧Z a b c d e f g i∧Q a b c d e f g i) (k:∀ a b c d e f g i,S a b c d e f g i→T a b c d e f g i→U a b c d e f g i→V a b c d e f g i→W a b c d e f g i→X a b c d e f g i→Y a b c d e f g i→Z a b c d e f g i→Q a b c d e f g i→P):P:=h.elim λa h=>h.elim λb h=>h.elim λc h=>h.elim λd h=>h.elim λe h=>h.elim λf h=>h.elim λg h=>h.elim λi h=>k a b c d e f g i h.1 h.2.1 h.2.2.1 h.2.2.2.1 h.2.2.2.2.1 h.2.2.2.2.2.1 h.2.2.2.2.2.2.1 h.2.2.2.2.2.2.2.1 h.2.2.2.2.2.2.2.2
theorem ns_ {α : Type _} {a : α} {P : Prop} (h : none = some a) : P := nomatch h
theorem sn_ {α : Type _} {a : α} {P : Prop} (h : some a = none) : P := nomatch h
theorem ft_ {P : Prop} (h : false = true) : P := nomatch h
theorem tf_ {P : Prop} (h : true = false) : P := nomatch h
theorem oe_ {α ε : Type _} {a : α} {b : ε} {P : Prop} (h : Except.ok a = Except.error b) : P := nomatch h
theorem eo_ {α ε : Type _} {a : α} {b : ε} {P : Prop} (h : Except.error b = Except.ok a) : P := nomatch h
theorem soe_ {α ε σ : Type _} {a : α} {b : ε} {s s' : σ} {P : Prop} (h : some (Except.ok a, s) = some (Except.error b, s')) : P := nomatch h
theorem seo_ {α ε σ : Type _} {a : α} {b : ε} {s s' : σ} {P : Prop} (h : some (Except.error b, s) = some (Except.ok a, s')) : P := nomatch h
theorem nc_ {α : Type _} {a : α} {l : List α} {P : Prop} (h : [] = a :: l) : P := nomatch h
theorem cn_ {α : Type _} {a : α} {l : List α} {P : Prop} (h : a :: l = []) : P := nomatch h
theorem nm_ {α : Type _} {a : α} {P : Prop} (h : a ∈ ([] : List α)) : P := absurd h List.not_mem_nil
theorem re_ {α : Sort _} {a : α} {P : Prop} (_ : a = a) (k : P) : P := k
theorem si_ {α : Type _} {a b : α} {P : Prop} (h : some a = some b) (k : a = b → P) : P := k (Option.some.inj h)
theorem sp_ {α σ : Type _} {a b : α} {s s' : σ} {P : Prop} (h : some (a, s) = some (b, s')) (k : a = b → s = s' → P) : P := k (congrArg Prod.fst (Option.some.inj h)) (congrArg Prod.snd (Option.some.inj h))
theorem so_ {α ε σ : Type _} {a b : α} {s s' : σ} {P : Prop} (h : some (Except.ok (ε := ε) a, s) = some (Except.ok b, s')) (k : a = b → s = s' → P) : P := sp_ h fun h => k (Except.ok.inj h)
theorem se_ {α ε σ : Type _} {a b : ε} {s s' : σ} {P : Prop} (h : some (Except.error (α := α) a, s) = some (Except.error b, s')) (k : a = b → s = s' → P) : P := sp_ h fun h => k (Except.error.inj h)
universe u
@[elab_as_elim] theorem rw_ {α : Sort u} {motive : α → Prop} {a b : α} (h : a = b) (g : motive b) : motive a := h ▸ g
open Lean
def zt (s : String) (l : List Syntax) : Syntax := .node .none (.str (.str (.str (.str .anonymous "Lean") "Parser") "Tactic") s) ⟨l⟩
def zm (s : String) (l : List Syntax) : Syntax := .node .none (.str (.str (.str (.str .anonymous "Lean") "Parser") "Term") s) ⟨l⟩
def za (s : String) : Syntax := .atom .none s
def zw (n : Name) : Syntax := .ident .none "".toRawSubstring n []
def zi (s : String) : Syntax := zw (.str .anonymous s)
def z0 (l : List Syntax) : Syntax := .node .none (.str .anonymous "null") ⟨l⟩
def zS : List Syntax → List Syntax
  | a :: b :: r => a :: za ";" :: zS (b :: r)
  | l => l
def zq (l : List Syntax) : Syntax := zt "tacticSeq" [zt "tacticSeq1Indented" [z0 (zS l)]]
def zp (l : List Syntax) : Syntax := zt "paren" [za "(", zq l, za ")"]
def zg : List Syntax → List Syntax
  | [] => []
  | a :: r => .node .none (.str .anonymous "group") ⟨[za "|", zq [a]]⟩ :: zg r
def zf (l : List Syntax) : Syntax := zt "first" [za "first", z0 (zg l)]
def zap (f : Syntax) (l : List Syntax) : Syntax := zm "app" [f, z0 l]
def zx (f : String) (l : List Syntax) : Syntax := zt "exact" [za "exact", zap (zi f) l]
def zr (f : String) (l : List Syntax) : Syntax := zt "refine" [za "refine", zap (zi f) (l ++ [zm "syntheticHole" [za "?", za "_"]])]
def zl (l : List Syntax) : List Syntax := zm "hygienicLParen" [za "(", .node .none (.str .anonymous "hygieneInfo") ⟨[zw .anonymous]⟩] :: l ++ [za ")"]
def zc (e : Syntax) (l : List Syntax) : Syntax := zm "typeAscription" (zl [e, za ":", z0 l])
def zn (l : List Syntax) : Syntax := zt "intro" [za "intro", z0 l]
def zk (e : Syntax) : Syntax := zt "clear" [za "clear", z0 [e]]
def zy (t : Syntax) : Syntax := zt "tacticTry_" [za "try", zq [t]]
def znm (p : Syntax) : Syntax := match p[0].getNumArgs == 1 && p[0][0][0].isToken "(" with
  | true => p[0][0][1][0]
  | false => p
def zob (p e : Syntax) : Syntax := zt "obtain" [za "obtain", z0 [znm p], z0 [], z0 [za ":=", z0 [e]]]
def zmed (p : Syntax) : Syntax := zt "rcasesPatMed" [z0 [p]]
def zX (i : Nat) : Syntax := zi ("xζ" ++ i.repr)
def zone (p : Syntax) : Bool := p[0][0].getNumArgs == 1 && p[0][0][0][0].isIdent
def zrf (p : Syntax) : Bool := p[0][0][0][0].getId == .str .anonymous "rfl"
def zin : Nat → List Syntax → List Syntax
  | _, [] => []
  | i, p :: r => match zone p, zrf p with
    | true, false => zn [p[0][0][0][0]] :: zin (i + 1) r
    | true, true => zn [zX i] :: zob p[0] (zX i) :: zin (i + 1) r
    | false, _ => zn [zX i] :: zin (i + 1) r
def zlate : Nat → List Syntax → List Syntax → List Syntax
  | _, [], z => z
  | i, p :: r, z => match zone p with
    | true => zlate (i + 1) r z
    | false => zob p[0] (zX i) :: zlate (i + 1) r z
def zu (c : String) (m q : Nat) : String := c ++ (m.repr ++ ("_" ++ q.repr))
def zref (m q : Nat) (h : List Syntax) (rs : List Syntax) : List Syntax := match Nat.ble m 8 && Nat.ble q 9, h with
  | true, e :: c => [zp (zr (zu "u" m q) [zc e []] :: c ++ rs)]
  | _, _ => []
def zfull (n : Nat) (h rs : List Syntax) : Nat → List Syntax
  | 0 => zref 0 n h rs
  | m + 1 => zref (m + 1) (n - (m + 1)) h rs ++ zfull n h rs m
def zb1 (h rs : List Syntax) (j : Nat) : Nat → List Syntax
  | 0 => []
  | k + 1 => zref (j - k) (k + 1) h rs ++ zb1 h rs j k
def zcm (c : String) : List Syntax → List Syntax
  | a :: b :: r => a :: za c :: zcm c (b :: r)
  | l => l
def zb (t : Syntax) (h ps : List Syntax) : Nat → List Syntax
  | 0 => []
  | j + 1 => zb1 h (zin 0 (ps.take (j + 1)) ++ zn [zi "yζ"] :: zlate 0 (ps.take (j + 1)) [zob (zmed (t.setArg 1 (z0 (zcm "," (ps.drop (j + 1)))))) (zi "yζ")]) (j + 1) (j + 2) ++ zb t h ps j
def zarm (c : List Syntax) (m : Syntax) : List Syntax := c ++ (zin 0 [zt "rcasesPatLo" [m, z0 []]] ++ zlate 0 [zt "rcasesPatLo" [m, z0 []]] [])
def zhole : Syntax := zm "syntheticHole" [za "?", za "_"]
def zor (e : Syntax) (c : List Syntax) : List Syntax → List Syntax
  | p :: q :: r => [zp (zt "refine" [za "refine", zap (zw (.str (.str .anonymous "Or") "elim")) [zc e [], zhole, zhole]] :: zt "rotateLeft" [za "rotate_left", z0 []] :: zarm c (zt "rcasesPatMed" [z0 (zcm "|" (q :: r))]) ++ zt "rotateRight" [za "rotate_right", z0 []] :: zarm c (zmed p))]
  | _ => []
def zO (x : Syntax) : List Syntax :=
  let t := x[1][0][0][0]
  let ps := t[1].getSepArgs.toList
  let e := x[3][1][0]
  let c := match e.isIdent with | true => [zy (zk e)] | false => []
  let z := [zt "rcases" [za "rcases", z0 [zt "elimTarget" [z0 [], zm "paren" (zl [e])]], z0 [za "with", zt "rcasesPatLo" [x[1][0], z0 []]]]]
  match x[1][0][0].getNumArgs == 1, Nat.ble 2 ps.length && t[0].isToken "⟨" with
  | true, true => zfull ps.length (e :: c) (zin 0 ps ++ zlate 0 ps []) (ps.length - 1) ++ (zb t (e :: c) ps (ps.length - 2) ++ z)
  | true, false => []
  | false, _ => zor e c x[1][0][0].getSepArgs.toList ++ z
def zR : List Syntax → MacroM Syntax
  | [] => Macro.throwUnsupported
  | l => pure (zf l)
def zcases (x : Syntax) : MacroM Syntax := zR (zO x)
def zrin : Nat → List Syntax → List Syntax × List Syntax
  | _, [] => ([], [])
  | i, p :: r => match zrin (i + 1) r, p[0][0].isIdent && p[0][0].getId != .str .anonymous "rfl" with
    | (a, b), true => (p[0][0] :: a, b)
    | (a, b), false => (zX i :: a, zob (zmed p[0]) (zX i) :: b)
def zct (x : Syntax) (ts : List Syntax) (n : Nat) : Nat → List Syntax
  | 0 => match Nat.ble n 9 with
    | true => [x.setArg 1 (zap (zi (zu "i" 0 n)) ts), x.setArg 1 (zm "paren" (zl [x[1]]))]
    | false => [x.setArg 1 (zm "paren" (zl [x[1]]))]
  | m + 1 => match Nat.ble (m + 1) 8 && Nat.ble (n - (m + 1)) 9 with
    | true => x.setArg 1 (zap (zi (zu "i" (m + 1) (n - (m + 1)))) ts) :: zct x ts n m
    | false => zct x ts n m
def zex (x : Syntax) : MacroM Syntax :=
  let ts := x[1][1].getSepArgs.toList
  match Nat.ble 3 ts.length && x[1][0].isToken "⟨" with
  | true => zR (zct x ts ts.length (ts.length - 1))
  | false => Macro.throwUnsupported
def zcs (e : Syntax) : Syntax := zt "cases" [za "cases", z0 [zt "elimTarget" [z0 [], e]], z0 [], z0 []]
def zz (i : Nat) : Syntax := zi ("ζ" ++ i.repr)
def zxs (e : Syntax) (z : List Syntax) : List String → List Syntax
  | [] => z
  | f :: r => zx f [e] :: zxs e z r
def zsp (e : Syntax) (f : String) : Syntax := zp [zr f [e], zk e, zn [zz 1, zz 2], zcs (zz 1), zcs (zz 2)]
def zinj (e : Syntax) (l : List Syntax) : Syntax := zp (zt "injection" [za "injection", e, z0 [za "with", z0 l]] :: l.map zcs)
def zcon : List String := ["ns_", "ft_", "tf_", "sn_", "soe_", "seo_", "oe_", "eo_", "nc_", "cn_", "nm_"]
def znom (x : Syntax) : MacroM Syntax := match x[1].getNumArgs == 1 && !x[1][0][0][0].isToken "(" with
  | true => pure (zm "byTactic" [za "by", zq [zf (zxs x[1][0] [zp [zcs (zm "paren" (zl [x[1][0]])), zt "done" [za "done"]]] zcon)]])
  | false => Macro.throwUnsupported
def zC (x : Syntax) : MacroM Syntax :=
  let e := x[1][0][1]
  match e.isIdent && x[1].getNumArgs == 1 && x[1][0][0].getNumArgs == 0 && x[2].getNumArgs == 0 && x[3].getNumArgs == 0 with
  | true => pure (zf (zxs e [zob (zmed (zt "rcasesPat" [zi "rfl"] |>.setKind (.str (.str (.str (.str (.str .anonymous "Lean") "Parser") "Tactic") "rcasesPat") "one"))) e, zp [zr "re_" [e], zk e], zsp e "so_", zsp e "se_", zsp e "sp_",
      zp [zr "si_" [e], zk e, zn [zz 1], zcs (zz 1)], zinj e [zz 1, zz 2, zz 3], zinj e [zz 1, zz 2], zinj e [zz 1], zcs (zm "paren" (zl [e]))] zcon))
  | false => Macro.throwUnsupported
def zred (t : Syntax) : Syntax := zt "withReducibleAndInstances" [za "with_reducible_and_instances", zq [t]]
def zsy (r t : Syntax) : Syntax := match r[0].getNumArgs with
  | 0 => t
  | _ => zap (zw (.str (.str .anonymous "Eq") "symm")) [zm "paren" (zl [t])]
def zpa (t : Syntax) : Syntax := zm "paren" (zl [t])
def zrw (l : Syntax) (r : Syntax) : Syntax :=
  let t := r[1]
  let w := zt "rewriteSeq" [za "rewrite", zt "optConfig" [z0 []], zt "rwRuleSeq" [za "[", z0 [r], za "]"], l]
  let d := zap (zpa t) [zm "ellipsis" [za ".."]]
  match l.getNumArgs with
  | 0 => match (t.find? fun s => s[0].isToken "by").isSome with
    | true => zf [zr "rw_" [zsy r t], w]
    | false => zf [zred (zr "rw_" [zsy r t]), zred (zr "rw_" [zsy r d]), w]
  | _ => w
def zrws (l : Syntax) : List Syntax → List Syntax
  | [] => [zy (zt "withReducible" [za "with_reducible", zq [zt "tacticRfl" [za "rfl"]]])]
  | r :: rs => zrw l r :: zrws l rs
def zrc (x : Syntax) : MacroM Syntax := match x[1].getNumArgs == 1 && x[1][0][0].getNumArgs == 0 && !x[1][0][1][0][0].isToken "(" && (x[2][1][0][0][0][0].isToken "⟨" || x[2][1][0][0].getNumArgs != 1) with
  | true => pure (zob x[2][1][0] x[1][0][1])
  | false => Macro.throwUnsupported
def zri (x : Syntax) : Syntax := match zrin 0 x[1].getArgs.toList with
  | (a, b) => zp (zn a :: b)
end Mine.Internal
local macro_rules (kind := Lean.Parser.Tactic.obtain) | x => Mine.Internal.zcases x
local macro_rules (kind := Lean.Parser.Tactic.rcases) | x => Mine.Internal.zrc x
local macro_rules (kind := Lean.Parser.Tactic.rintro) | x => pure (Mine.Internal.zri x)
local macro_rules (kind := Lean.Parser.Tactic.exact) | x => Mine.Internal.zex x
local macro_rules (kind := Lean.Parser.Tactic.refine) | x => Mine.Internal.zex x
local macro_rules (kind := Lean.Parser.Term.nomatch) | x => Mine.Internal.znom x
local macro_rules (kind := Lean.Parser.Tactic.cases) | x => Mine.Internal.zC x
local macro_rules (kind := Lean.Parser.Tactic.rwSeq) | x => pure (Mine.Internal.zp (Mine.Internal.zrws x[3] x[2][1].getSepArgs.toList))
local macro_rules (kind := Lean.Parser.Tactic.show) | x => pure (Mine.Internal.zt "refine" [Mine.Internal.za "refine", Mine.Internal.zc (Mine.Internal.zm "syntheticHole" [Mine.Internal.za "?", Mine.Internal.za "_"]) [x[1]]])
local macro_rules
  | `(tactic| omega) => `(tactic| first | lia | omega (splitDisjunctions := true))
namespace Mine.Internal
end Mine.Internal
section
namespace Mine.Internal
open Lean
def zzv (a:Nat) (c:Char):Nat:=let k:=c.toNat;a*63+bif k.ble 47 then 9999 else bif k.ble 57 then k+5 else bif k.ble 64 then 9999 else bif k.ble 90 then k-38 else bif k.ble 96 then 63 else bif k.ble 122 then k-96 else 9999
def zzd (D:Array Syntax) (n:Name):Syntax:=D.getD (n.toString.toList.foldl zzv 0) (mkIdent n)
def zzE (D:Array Syntax) (x:Syntax):Syntax:=bif x.isIdent then (let n:=x.getId;bif n.isAtomic then zzd D n else mkIdent (n.components.foldl (fun a c=>a++(zzd D c).getId) .anonymous))
 else bif x[1][0].isOfKind `Lean.Parser.Command.section then mkNullNode (x[1].getArgs.push (mkNode `Lean.Parser.Command.end #[x[2],mkNullNode]))
 else x.setInfo .none
def zzR (D:Array Syntax) (x:Syntax):Syntax:=x.rewriteBottomUp (zzE D)
def zzX (x:Syntax):Syntax:=mkNullNode ((x[1].getArgs.extract 1).map (zzR (Nat.fold x[1][0][1][1][0].getArgs.size (fun i _ D=>D.modify i fun y=>bif y.isIdent then y.setInfo .none else zzR D (bif y.isOfKind `Lean.Parser.Term.instBinder then y[2] else y)) x[1][0][1][1][0].getArgs)))
end Mine.Internal
local macro_rules (kind:=Lean.Parser.Command.mutual)|x=>bif (x.getPos? true).isSome then pure (Mine.Internal.zzX x) else Lean.Macro.throwUnsupported
open PySem PySem.W PyProof.Rows
namespace Mine.Internal
mutual
example _ a some b ζ e x c k σ n ρ h jD P f Nat Option r List l u v M X ob T y d m i Str q o PySem ofString bnd stuck Bool vs t R kX α kg beq length es s int p look obj _ _ _ _ _ _ _ _ _ _ _ ret w ac{O:Type}list{i:jE}g inj ns_(z:Tb)j(x:s (E×kN))ρ' Expr(i:jE)Stmt(v:m)[λd=>K]Int «at» tup bool{Q:Type}glob inst(B:∀f,n f)eq_of_beq_eq_true eqv{j:p}hk set(f:E)[uG v]trans(k:jL)[s m](M:s m)[m×m]Call alloc map outer small z[(h,v)]{n:Prop}(j:p)es' upd' Unit congrArg dict lim[E×m]{n:an->Sort v}(f:an)[q.b.ah l]ble bn body cont fs[.Z j](a c:m)[.Z C]{Q β:Type}[Lp M]σ' clsAt dictAt h1 hb hi ik it out slot{n:ap->Sort v}(f:ap){v:m}[m->w O]Attribute ap blt elim gl h2 «by» hl ifs isKey putK{a:m}[.ae A][tB c][b v][bg i j](t:s m)[j+1](h:m->w O)[.ae t](h:jL->w O)[jL->w O](V:ap)BoolOp Constant D F G Name Slice Subscript UnaryOp error fd fl fo forL getD guard h0 hs hz isSome items names or_eq_true_iff range rest width[l_ i j][l_ i C][aB i o][.ax 64][bf i j][⟨N,bl,bA,0⟩][E×kN][.W D][aN bL][vI ag][s m->w O]{t:s m}[lR x sc.b_ (cd x)][λam=>aa (.next am)][λv=>aa (.aa v)][.a8 am]{t:s a1}Assign BinOp ClassDef Compare Comprehension Const Continue Dict DictComp FunctionDef IfExp ListComp Raise Return SetComp True Tuple While ca cd clamp co cs el fdiv isAny isEmpty replicate sumInts toNat unpackK(l:i[j]?=b bL){F:L}[uG c][b false][.ae a][o+1][(.ok a,i)][.ae f][bk a][bk c][(.ok a,be)]{β:Type}[(h,ab)](D:as)[tB D][place h t.T]{h:Q->w β}[E×NameKind]{r:dz m β×jE}{a:Q}(a:m)[[a,c]][.aZ t](ag:jE->Prop)[.aa v]«do»[uT z x bl k][R z x bl k][.bU f _]{t:s aL}(g:p)[λd=>[]](D:p)[.Pass ⟨0,0,0,0⟩](l:i[j]?=b (.ay g t))Classical Except ExceptHandler I and_eq_true_iff bi bo cn e1 e2 enumerate ex go h4 hd hf ii isinstance negSucc zipWith{j g:p}(l:i[j]?=b dl)[w Q][Q×jE]{o:jE->q dU}{o:jE->q dV}(G:ko){a c:s m}[p.a5 t.T a0][pN l][f=A][j4 f A][D+ak](l:i[C]?=b c4)[.ae c][Ss l]{a c:m}{n:m->m->L->Prop}(nn:n .none .none true)[qz l][qz h''][aR▸dL](C:w Q)(f:m)[p.S C j][Bx c][p.S g 64][(.bY e,be)][bk a*bk c][(p.aA l:g=64)](B:p){B:p}{n:p->Prop}(a:n 82)(c:n 104)(g:n 125)[p×E][h+1][E⊕as][q m][aB [] 4 h f]{G:q m}[aS::r](v D:m)(v D ab:m){G:q Q}[.bQ a c g]{o:Q->q β}[.bU a c]{c:β}[.s a c][.cL a c g][.cy a c g e][.aM a c g e][.bs a c g][.cE a c g e o ag l D ak h][.cx a c g e o ag l D ak h t][.cI a c][.For a c g e o][.cM a c g e]{o:jE->q Q}(g:cA)[.str V][p×E×p][cd r][.bn D _][tB a][tS i a][.ae (t++r)][0<A]{U:s aL}[.aZ U](l:i[j]?=b e0)[JJ l][(λh:p=>a+g*(h:as))][[a,c,g]][λf A=> .au [f,A]][s aL][tT U][tB v][(aN (.ae (U.aO (·.1))))][tS i v][.av F][oX z.uv g.1 f][v::M][b ()][.next k](g:jL->w L)(c:jL->w jI)[ry v](N:an)[(It->w O)->w O][co->w O](a c g:q m)[aN (.ae M)][cd x][rK sc.b_][.bs G a _][tE z o M][.av false][jN op a c][(.ok v,be)](kr:m->w O)[b e][kY h kr](oW:s m)(args:s m)[lR [] sc.b_ 0][.ay B t](st:ap)[⟨0,0,0,0⟩][λd=>an.bQ cA.none 0 fC][b t][kP V]{g j:p}[.ay g t]:True:=x
noncomputable abbrev lJ:=H.E.I "append"
noncomputable abbrev nj:=H.E.I "cdr"
noncomputable abbrev m6:=H.E.I "extend"
noncomputable abbrev o8:=H.E.I "codes"
noncomputable abbrev vE:=H.E.I "cell"
noncomputable abbrev vG:=H.E.I "cells"
noncomputable abbrev sr:=H.E.I "aset"
noncomputable abbrev oJ:=H.E.I "things"
noncomputable abbrev rq:=H.E.I "symbol"
noncomputable abbrev wX:=H.E.I "arrays"
noncomputable abbrev tn:=H.E.I "elt"
noncomputable abbrev uy:=H.E.I "fillarray"
noncomputable abbrev vB:=H.E.I "vector"
noncomputable abbrev uz:=H.E.I "safe-length"
noncomputable abbrev p6:=H.E.I "car"
noncomputable abbrev pB:=H.E.I "pop"
noncomputable abbrev wJ:=H.E.I "wrong-type-argument"
noncomputable abbrev yQ:=H.E.I "number"
noncomputable abbrev se:=H.E.I "delete"
noncomputable abbrev sf:=H.E.I "spans"
noncomputable abbrev vC:=H.E.I "data"
noncomputable abbrev uA:=H.E.I "nreverse"
noncomputable abbrev wK:=H.E.I "nil"
noncomputable abbrev yR:=H.E.I "aref"
noncomputable abbrev uB:=H.E.I "make-vector"
noncomputable abbrev uC:=H.E.I "setcdr"
noncomputable abbrev Bm:=H.E.I "array"
noncomputable abbrev wL:=H.E.I "length"
noncomputable abbrev Bo:=H.E.I "known"
noncomputable abbrev rm:=H.E.I "left"
noncomputable abbrev wM:=H.E.I "remove"
noncomputable abbrev sj:=H.E.I "right"
noncomputable abbrev sq:=H.E.I "slow_left"
noncomputable abbrev wN:=H.E.I "vconcat"
noncomputable abbrev vD:=H.E.I "cons"
noncomputable abbrev tu:=H.E.I "slow_right"
noncomputable abbrev Bp:=H.E.I "string"
noncomputable abbrev wO:=H.E.I "reverse"
noncomputable abbrev wQ:=H.E.I "pool"
noncomputable abbrev uD:=H.E.I "deep"
noncomputable abbrev uE:=H.E.I "turn"
noncomputable abbrev wR:=H.E.I "copy-sequence"
noncomputable abbrev vF:=H.E.I "values"
noncomputable abbrev wU:=H.E.I "is_round"
noncomputable abbrev wV:=H.E.I "go_on"
noncomputable abbrev O5:=H.E.I "args-out-of-range"
noncomputable abbrev wW:=H.E.I "__next__"
noncomputable abbrev Ek:=H.E.I "told"
noncomputable abbrev Bq:=H.E.I "signal"
noncomputable abbrev IU:=H.E.I "__setattr__"
noncomputable abbrev IV:=H.E.I "self"
inductive Bn where
 |len|cb|dP|ae|zip|dI|abs|W|sum|str|av
 deriving DecidableEq
inductive m where
 |none|av (c:L)|W (D:as)|str (V:E)|au (t:s m)
 |Z (j:p)|ax (a:p)|a6 (c:Bn)
 |tK (t:s m)
inductive ko where
 |ae (t:s m)
 |aZ (U:s aL)
 |ay (g:p) (a9:s a1)
 |oB
theorem m.Z.ah{a c:p}(l:m.Z a= .Z c):a=c:=by cases l;rfl
theorem ko.ae.ah dZ(l:ko.ae a= .ae c):a=c:=by cases l;rfl
noncomputable abbrev jE:=s ko
noncomputable abbrev w(Q:Type):=jE->q (dz m Q×jE)
noncomputable def aa aw(a:Q):w Q:=λi=>b c6
noncomputable def raise aw(e:m):w Q:=λi=>b (.bY e,i)
noncomputable def K aw:w Q:=λd=>none
noncomputable def J bc ed(h:Q->w β):w β:=λi=>match C i with
 |none=>none
 |b ei=>b ei
 |b c_=>h a be
noncomputable def asY aw:q Q->w Q
 |b a=>aa a
 |none=>K
noncomputable def Y aw(o:jE->q Q):w Q:=λi=>match o i with
 |b a=>b c6
 |none=>none
noncomputable def y bc(G:q Q)(o:Q->q β):q β:=match G with
 |b a=>o a
 |none=>none
noncomputable def P da(c:L)(f:q β):q β:=match c with
 |true=>f
 |false=>none
theorem kC{a c:L} aT(l:(a&&c)=true)(h:a=true->c=true->n):n:=by
 cases a with
 |false=>exact ft_ l
 |true=>exact h rfl l
theorem jZ bc eA eC eE aT(e:y G o=b c)(h:∀a,G=b a->o a=b c->n):n:=by
 cases G with
 |none=>exact ai e
 |b a=>exact h a rfl e
theorem lM da{g:L}{f:q β} eE aT(e:P g f=b c)(h:g=true->f=b c->n):n:=by
 cases g with
 |false=>exact ai e
 |true=>exact h rfl e
theorem nR bc eP df af dh aT(e:J (Y o) h i=b r)(F:∀a,o i=b a->h a i=b r->n):n:=by
 unfold J Y at e;cases l:o i with
 |none=>rw[l] at e;exact ai e
 |b a=>rw[l] at e;exact F a l e
theorem nS aw eP af di(l:o i=b a):Y o i=b c6:=by unfold Y;rw[l]
theorem j7 bc eA eC di(l:G=b a):y G o=o a:=l▸rfl
noncomputable def uG:m->q p
 | .Z j=>b j
 |_=>none
noncomputable def tB:m->q as
 | .W j=>b j
 |_=>none
noncomputable def PD:m->q E
 | .str j=>b j
 |_=>none
noncomputable def PC:m->q L
 | .av j=>b j
 |_=>none
noncomputable def tC:m->q aJ
 | .au j=>b j
 |_=>none
noncomputable def l_ ao aU:q aJ:=match i[j]? with
 |b bL=>b t
 |_=>none
noncomputable def bg ao aU:q e6:=match i[j]? with
 |b dl=>b t
 |_=>none
theorem qj bq aC(l:uG v=b j):v= .Z j:=by
 cases v with
 |Z C=>exact aY m.Z a4
 |_=>exact ai l
theorem qO bq{j:as}(l:tB v=b j):v= .W j:=by
 cases v with
 |W C=>exact aY m.W a4
 |_=>exact ai l
theorem afk bq{j:E}(l:PD v=b j):v= .str j:=by
 cases v with
 |str C=>exact aY m.str a4
 |_=>exact ai l
theorem afi bq{j:L}(l:PC v=b j):v= .av j:=by
 cases v with
 |av C=>exact aY m.av a4
 |_=>exact ai l
theorem By bq{j:s m}(l:tC v=b j):v= .au j:=by
 cases v with
 |au C=>exact aY m.au a4
 |_=>exact ai l
theorem qz af aC cp(l:l_ i j=b t):i[j]?=b bL:=by
 unfold l_ at l;rcases F:i[j]? with _|G
 ·rw[F] at l;exact ai l
 ·rw[F] at l;cases G with
  |ae C=>exact aY (λt=>b (ko.ae t)) a4
  |_=>exact ai l
theorem EF af aC ds(l:bg i j=b t):i[j]?=b dl:=by
 unfold bg at l;rcases F:i[j]? with _|G
 ·rw[F] at l;exact ai l
 ·rw[F] at l;cases G with
  |aZ C=>exact aY (λt=>b (ko.aZ t)) a4
  |_=>exact ai l
noncomputable def B5 dt ao aU:q (s a1):=match i[j]? with
 |b fA=>P (p.S B g) fE
 |_=>none
theorem ajU af fG cu(l:B5 g i j=b t):i[j]?=b fH:=by
 unfold B5 at l;rcases F:i[j]? with _|G
 ·rw[F] at l;exact ai l
 ·rw[F] at l;cases G with
  |ay B C=>exact lM l λdM l=>by rw[p.aA dM,q.b.ah l]
  |_=>exact ai l
theorem ajV af fG cu dx:B5 g i j=b t:=by unfold B5;rw[l];show P (p.S g g) _=_;rw[p.beq_refl];rfl
noncomputable def bf ao aU:q (p×s a1):=match i[j]? with
 |b fA=>b (B,t)
 |_=>none
theorem JB af aC{X:p×s a1}(l:bf i j=b X):i[j]?=b (.ay X.1 X.2):=by
 unfold bf at l;rcases F:i[j]? with _|G
 ·rw[F] at l;exact ai l
 ·rw[F] at l;cases G with
  |ay B C=>rw[<-q.b.ah l]
  |_=>exact ai l
theorem P6 af dS cu dx:bf i j=b (g,t):=by unfold bf;rw[l]
theorem SS af dS cu dx:l_ i j=none:=by unfold l_;rw[l]
theorem FO af aC ds dT:l_ i j=none:=by unfold l_;rw[l]
noncomputable def rB aw(o:jE->q dU):w Q:=λi=>match o i with
 |b C=>C i
 |none=>none
noncomputable def aW aw(o:jE->q dV):w Q:=λi=>match o i with
 |b X=>b (.ok X.1,X.2)
 |none=>none
theorem BK bc dW df af dh aT(e:J (rB o) h i=b r)(F:∀C,o i=b C->J C h i=b r->n):n:=by
 unfold J rB at e;cases l:o i with
 |none=>rw[l] at e;exact ai e
 |b C=>rw[l] at e;exact F C l e
theorem zd aw dW af{C:w Q}(l:o i=b C):rB o i=C i:=by unfold rB;rw[l]
theorem My bc dX df af dh aT(e:J (aW o) h i=b r)(F:∀a τ,o i=b (a,τ)->h a τ=b r->n):n:=by
 unfold J aW at e;cases l:o i with
 |none=>rw[l] at e;exact ai e
 |b C=>rw[l] at e;exact F C.1 C.2 l e
theorem Gp aw dX{i τ:jE} di(l:o i=b (a,τ)):aW o i=b (.ok a,τ):=by unfold aW;rw[l]
theorem pN af aC cp c0:l_ i j=b t:=by unfold l_;rw[l]
theorem JJ af aC ds dT:bg i j=b t:=by unfold bg;rw[l]
noncomputable def j4(a c:E):L:=Fast.sEq a c
theorem n8{a c:E}:j4 a c=true↔a=c:=Fast.sEq_iff
noncomputable def lk aw:s (E×Q)->E->q Q
 |[],_=>none
 |aS::r,f=>match j4 f h with
  |true=>b v
  |false=>lk r f
noncomputable def a0:p:=1000000
noncomputable def fits:ko->L
 | .ae t=>p.a5 t.T a0
 | .aZ U=>p.a5 U.T a0
 | .ay _ a9=>p.a5 a9.T 0
 | .oB=>true
noncomputable def aN dY:w m:=λi=>match fits G with
 |true=>b (.ok (.Z i.T),i++[G])
 |false=>none
noncomputable def asz aq:w ko:=λi=>match v with
 | .Z j=>match i[j]? with
  |b G=>b (.ok G,i)
  |none=>none
 |_=>none
noncomputable def as6 aq dY:w aX:=λi=>match v with
 | .Z j=>b (.ok (),i.aE j G)
 |_=>none
noncomputable def tS ao:m->q aJ
 | .tK t=>P d0 fE
 | .Z j=>l_ i j
 |_=>none
noncomputable def ry aq:w aJ:=Y λi=>tS i v
noncomputable def kd ao:m->q p
 | .none=>b 0
 | .W _=>b 1
 | .str _=>b 2
 | .au _=>b 3
 | .Z j=>y ce λd=>b 4
 |_=>q.none
theorem KH af bD(l:kd i a=b 0):a= .none:=by
 cases a with
 |none=>rfl
 |Z j=>exact jZ l λd d l=>nomatch q.b.ah l
 |_=>cases l
theorem Ss af aC{A:s m}(l:i[j]?=b bE):kd i a_=b 4:=j7 d1
theorem Sq af bD(l:kd i a=b 4):∃j A,a= .Z j/\i[j]?=b bE:=by
 cases a with
 |Z j=>exact jZ l λA e d=>⟨j,A,rfl,qz e⟩
 |_=>cases l
noncomputable def o_(o:m->m->q L):s m->s m->q L
 |[],C=>b C.cV
 |a::r,C=>match C with
  |[]=>b false
  |c::N=>y (o a c) λX=>y (o_ o r N) λF=>b (X&&F)
theorem JP{o:m->m->q L} bD{t C:s m} c1(e:o_ o (a::t) C=b F) aT(b5:C=[]->F=false->n)(bh:∀c N X r,C=c::N->o a c=b X->o_ o t N=b r->F=(X&&r)->n):n:=by
 cases C with
 |nil=>exact b5 rfl (q.b.ah e).symm
 |cons c N=>exact jZ e λX dG e=>jZ e λr dH e=>bh c N X r rfl dG dH (q.b.ah e).symm
noncomputable def ah1(r:m->m->q L) ao ba:q L:=match a with
 | .none=>b true
 | .W f=>y bF λA=>b (decide d2)
 | .str f=>y (PD c) λA=>b d3
 | .au f=>y (tC c) λA=>o_ r f A
 | .Z C=>y cf λf=>y c2 λj=>y ce λA=>match p.S f.T A.T with
  |true=>o_ r f A
  |false=>b false
 |_=>q.none
noncomputable def aB ao:p->m->m->q L
 |0,_,_=>q.none
 |o+1,a,c=>y (kd i a) λD=>y (kd i c) λak=>match p.S D ak with
  |false=>P (p.S (D*ak) 0&&p.S d4 4) c3
  |true=>ah1 cg i a c
theorem JT af{o C j:p} dZ d5(h':i[j]?=b d6):
  aB i c5 bb a_=match p.S a.T c.T with
   |true=>o_ cg a c
   |false=>b false:=
 (j7 d7).aH ((j7 (Ss h')).aH ((j7 d1).aH ((j7 rfl).aH (j7 (pN h')))))
theorem aia af{o C:p}{a:s m} d5:aB i c5 bb .none=b false:=(j7 d7).aH rfl
theorem JS af{o:p} d8 c1(e:aB i c5 a c=b F) d9 d_(dO:∀f A,n (.W f) (.W A) (decide d2))(ss:∀f A,n (.str f) (.str A) d3)
  (tt:∀f A F,o_ cg f A=b F->n (.au f) (.au A) F)(ll:∀C j f A F,i[C]?=b c7->i[j]?=b bE->f.T=A.T->o_ cg f A=b F->n bb a_ F)
  (lx:∀C j f A,i[C]?=b c7->i[j]?=b bE->f.T≠A.T->n bb a_ false)(nl:∀j A,i[j]?=b bE->n .none a_ false)(ln:∀C f,i[C]?=b c7->n bb .none false):n a c F:=by
 refine jZ e λD bh e=>jZ e λak bx e=>?_;cases bi:p.S D ak with
 |true=>
  rw[bi] at e;have bi:=p.aA bi;cases a with
  |none=>have b7:c= .none:=KH (((q.b.ah bh).aH bi).symm▸bx);clear bx;cases b7;exact q.b.ah e▸nn
  |W f=>exact jZ e λA l e=>qO l▸q.b.ah e▸dO f A
  |str f=>exact jZ e λA l e=>afk l▸q.b.ah e▸ss f A
  |au f=>exact jZ e λA l e=>By l▸tt f A F e
  |Z C=>
   refine jZ e λf l e=>jZ e λj h' e=>jZ e λA h'' e=>qj h'▸?_;cases bz:p.S f.T A.T with
   |true=>exact ll C j f A F ea eb (p.aA bz) (by rw[bz] at e;exact e)
   |false=>exact (by rw[bz] at e;exact q.b.ah e:false=F)▸lx C j f A ea eb (p.ne_of_beq_eq_false bz)
  |_=>exact ai e
 |false=>
  rw[bi] at e;refine lM e λl e=>q.b.ah e▸?_;have dL:=p.aA (L.dC.mp l).2;have b5:=p.aA (L.dC.mp l).1;refine (p.mul_eq_zero.mp b5).bv (λaR=>?_) λaR=>?_
  ·obtain ⟨j,A,rfl,h⟩:=Sq (((p.zero_add ak).symm.aH ec)▸bx:kd i c=b 4);clear e;cases (KH (aR▸bh):a= .none);exact nl j A h
  ·obtain ⟨j,A,rfl,h⟩:=Sq (((p.add_zero D).symm.aH ec)▸bh:kd i a=b 4);clear e;cases (KH (aR▸bx):c= .none);exact ln j A h
noncomputable def uP ao ee:s m->q L
 |[]=>b false
 |a::r=>y (aB i 4 a f) λX=>y (uP i f r) λF=>b (X||F)
noncomputable def bk:m->p
 | .none=>1
 | .W _=>2
 | .str _=>2
 | .au _=>3
 | .Z _=>3
 | .ax _=>3
 |_=>0
noncomputable def Bx:m->q p
 | .ax j=>b j
 |_=>none
noncomputable def aj8 ba:q L:=match a with
 | .none=>b true
 | .Z C=>match uG c with
  |b j=>b ef
  |none=>y eg λg=>P eh c3
 | .ax g=>P eh (match uG c with
  |b j=>b false
  |none=>y eg λB=>P (p.S B 64) (b true))
 |_=>q.none
noncomputable def qn ba:q L:=match p.S c8 c9 with
 |false=>P (!p.S ej 0) c3
 |true=>aj8 a c
theorem afj bq aC(l:Bx v=b j):v= .ax j:=by
 cases v with
 |ax C=>exact aY m.ax a4
 |_=>exact ai l
theorem ajK{c:m}(l:bk c=1):c= .none:=by
 cases c with
 |none=>rfl
 |_=>cases l
theorem akh d8 c1(e:qn a c=b F) d9(bt:p.S c8 c9=false->p.S ej 0=false->n a c false) d_(oo:∀C j,n bb a_ ef)
  (og:∀C,n bb ch false)(dK:∀j,n ch a_ false)(aiU:n ch ch true):n a c F:=by
 unfold qn at e;cases aD:p.S c8 c9 with
 |false=>rw[aD] at e;exact lM e λl e=>q.b.ah e▸bt aD (L.not_eq_true' _▸l)
 |true=>
  rw[aD] at e;have aD:=p.aA aD;cases a with
  |none=>clear bt;cases ajK aD.symm;exact q.b.ah e▸nn
  |Z C=>
   clear bt aD;cases c with
   |Z j=>exact q.b.ah e▸oo C j
   |ax g=>exact lM e λl e=>p.aA l▸q.b.ah e▸og C
   |_=>exact ai e
  |ax g=>
   clear bt aD;refine lM e λl e=>?_;cases ek;cases c with
   |Z j=>exact q.b.ah e▸dK j
   |ax g=>refine lM e λl e=>?_;clear aD;cases ek;exact q.b.ah e▸aiU
   |_=>exact ai e
  |_=>exact ai e
noncomputable def Kv el:L:=p.S B 82||(p.S B 104||p.S B 125)
noncomputable def uR el:L:=Kv B||(p.S B 146||p.S B 181)
theorem Fd em en(l:Kv B=true) eo ep eq:n B:=
 (L.ca.mp l).bv (λe=>p.aA e▸a) λl=>(L.ca.mp l).bv (λe=>p.aA e▸c) λe=>p.aA e▸g
theorem E9 em en(l:uR B=true) eo ep eq(f:n 146)(A:n 181):n B:=
 (L.ca.mp l).bv (λl=>Fd l a c g) λl=>(L.ca.mp l).bv (λe=>p.aA e▸f) λe=>p.aA e▸A
noncomputable def CS:q ko->q p
 |b (.ae _)=>b 5
 |b (.ay B _)=>P (Kv B) (b B)
 |_=>none
noncomputable def sM ao:m->q p
 | .none=>b 0
 | .av _=>b 1
 | .W _=>b 2
 | .str _=>b 3
 | .au _=>b 4
 | .ax a=>P (p.S a 64) (b 58)
 | .Z j=>CS i[j]?
 |_=>none
noncomputable def afV:m->q p
 | .ax g=>P (uR g) (b g)
 | .a6 .av=>b 1
 | .a6 .W=>b 2
 | .a6 .str=>b 3
 |_=>none
noncomputable def sD(N B:p):L:=p.S N B||(p.S N 1&&p.S B 2)
noncomputable def Fc ao aq(g:m):q L:=y (sM i v) λN=>y (afV g) λB=>b (sD N B)
noncomputable def cU ao aq:s m->q L
 |[]=>b false
 |g::r=>y (Fc i v g) λF=>match F with
  |true=>b true
  |false=>cU i v r
noncomputable def B7 ao(v g:m):q L:=match tC g with
 |b cR=>P (!cR.cV) (cU i v cR)
 |none=>Fc i v g
noncomputable def nO:s er:=[(82,p6),(82,nj),(104,o8),(104,sf),(125,oJ),
 (334,rm),(334,sj),(334,uD),(334,uE),(334,sq),(334,tu)]
noncomputable def mT dt aF:s er->L
 |[]=>false
 |(B,A)::r=>match p.S g B with
  |true=>match j4 f A with
   |true=>true
   |false=>mT g f r
  |false=>mT g f r
noncomputable def kF aq aF:w m:=Y λi=>y aG λj=>y ci λg=>P (mT g.1 f nO) (lk g.2 f)
noncomputable def mK:s a1->E->m->s a1
 |[],f,ab=>[(f,ab)]
 |aS::r,f,ab=>match j4 f h with
  |true=>db::r
  |false=>aS::mK r f ab
noncomputable def lS aq aF(ab:m):w aX:=aW λi=>y aG λj=>y ci λg=>P (p.bu g.2.T 100&&mT g.1 f nO) (b ((),i.aE j (.ay g.1 (mK g.2 f ab))))
noncomputable def place dc aU:q p:=match D with
 | .ofNat h=>match p.bu h j with
  |true=>b h
  |false=>none
 | .dQ h=>match p.bu h j with
  |true=>b (j -es)
  |false=>none
noncomputable def tQ:m->q et
 | .str V=>b (.inl V)
 | .W D=>b (.inr D)
 |_=>q.none
noncomputable def qa:s m->q (s et)
 |[]=>b []
 |v::r=>match tQ v,qa r with
  |b h,b ks=>b (h::ks)
  |_,_=>q.none
noncomputable def bB:m->L
 | .au t=>(qa t).b8
 |_=>false
noncomputable def Fe:m->L
 | .str _=>true
 |_=>false
noncomputable def pL:s aL->m->q eu
 |[],_=>b q.none
 |aS::r,f=>y ev λF=>match F with
  |true=>b bG
  |false=>pL r f
noncomputable def bC:s aL->m->m->q e6
 |[],f,ab=>b [(f,ab)]
 |aS::r,f,ab=>y ev λF=>match F with
  |true=>b (db::r)
  |false=>y (bC r f ab) λU=>b (aS::U)
theorem Q8{h v f:m}{r:s aL} ew(e:pL ex f=b G) aT(N:aB [] 4 h f=b true->G=b v->n)(o:aB [] 4 h f=b false->pL r f=b G->n):n:=
 jZ e λF l e=>by
  cases F with
  |true=>exact N l (q.b.ah e).symm
  |false=>exact o l e
theorem Uh{h v f ab:m}{r U:s aL}(e:bC ex f ab=b U) aT(N:aB [] 4 h f=b true->U=db::r->n)(o:∀aV,aB [] 4 h f=b false->bC r f ab=b aV->U=aS::aV->n):n:=
 jZ e λF l e=>by
  cases F with
  |true=>exact N l (q.b.ah e).symm
  |false=>exact jZ e λaV h' e=>o aV l h' (q.b.ah e).symm
noncomputable def Ro ao ey:q m:=match tC v with
 |b t=>y dd λh=>P d0 (y de λX=>t[X]?)
 |none=>y aG λj=>match l_ i j with
  |b t=>y dd λh=>y de λX=>t[X]?
  |none=>y bH λU=>P (bB D||Fe D) (y (pL U D) λG=>G)
noncomputable def jT ey:w m:=Y λi=>Ro i v D
noncomputable def aox ez ao:q (aX×jE):=y aG λj=>match l_ i j with
 |b t=>y dd λh=>P (decide (0<=h)) (y de λX=>b ((),i.aE j (.ae (t.aE X ab))))
 |none=>y bH λU=>P (bB D) (y (bC U D ab) λaV=>P (p.a5 aV.T a0) (b ((),i.aE j (.aZ aV))))
noncomputable def pn ez:w aX:=aW (aox v D ab)
noncomputable def cP dc aU:p:=match D with
 | .ofNat h=>min h j
 | .dQ h=>j -es
noncomputable def cut bI(lo bj:q as):s m:=
 let a:=match lo with|b D=>cP D t.T|none=>0
 let c:=match bj with|b D=>cP D t.T|none=>t.T
 (t.drop a).take (c -a)
universe v
noncomputable def mJ a2 a3 az(con:∀a c g,n eB:=λd d d=>B _)(nm:∀a c,n eD:=λd d=>B _)(dE:∀a c g,n (.bP a c g):=λd d d=>B _)(dD:∀a c g e,n (.cw a c g e):=λd d d d=>B _)(un:∀a c g,n (.bX a c g):=λd d d=>B _)(E4:∀a c g e,n (.cF a c g e):=λd d d d=>B _)(xe:∀a c g,n (.cC a c g):=λd d d=>B _)(li:∀a c,n eF:=λd d=>B _)(qH:∀a c g,n eG:=λd d d=>B _)(lc:∀a c g e,n (.cG a c g e):=λd d d d=>B _)(cQ:∀a c g e,n eH:=λd d d d=>B _)(cN:∀a c g e,n eI:=λd d d d=>B _)(rz:∀a c g,n eJ:=λd d d=>B _)(rT:∀a c g,n (.bW a c g):=λd d d=>B _)(sl:∀a c g e,n (.bV a c g e):=λd d d d=>B _)(st:∀a c g,n (.Set a c g):=λd d d=>B _)(Gf:∀a c g e,n (.cJ a c g e):=λd d d d=>B _)(ahb:∀a c g e o,n (.cD a c g e o):=λd d d d d=>B _):n f:=match f with
 | .bQ a c g=>con a c g
 | .bU a c=>nm a c
 | .bP a c g=>dE a c g
 | .cw a c g e=>dD a c g e
 | .bX a c g=>un a c g
 | .cF a c g e=>E4 a c g e
 | .cC a c g=>xe a c g
 | .s a c=>li a c
 | .cL a c g=>qH a c g
 | .cG a c g e=>lc a c g e
 | .cy a c g e=>cQ a c g e
 | .aM a c g e=>cN a c g e
 | .bs a c g=>rz a c g
 | .bW a c g=>rT a c g
 | .bV a c g e=>sl a c g e
 | .Set a c g=>st a c g
 | .cJ a c g e=>Gf a c g e
 | .cD a c g e o=>ahb a c g e o
 |f=>B f
noncomputable def vY bo bp az(bZ:∀a c g e o ag l D ak h,n eK:=λd d d d d d d d d d=>B _)(cO:∀a c g e o ag l D ak h t,n eL:=λd d d d d d d d d d d=>B _)(re:∀a c,n eM:=λd d=>B _)(asg:∀a c g,n (.cv a c g):=λd d d=>B _)(b1:∀a c g e o,n eN:=λd d d d d=>B _)(Gv:∀a c g e,n eO:=λd d d d=>B _)(iff:∀a c g e,n (.If a c g e):=λd d d d=>B _)(ra:∀a c g,n (.cH a c g):=λd d d=>B _)(tr:∀a c g e o,n (.Try a c g e o):=λd d d d d=>B _)(dJ:∀a c,n (.an a c):=λd d=>B _)(a8:∀a,n (.cB a):=λd=>B _):n f:=match f with
 | .cE a c g e o ag l D ak h=>bZ a c g e o ag l D ak h
 | .cx a c g e o ag l D ak h t=>cO a c g e o ag l D ak h t
 | .cI a c=>re a c
 | .cv a c g=>asg a c g
 | .For a c g e o=>b1 a c g e o
 | .cM a c g e=>Gv a c g e
 | .If a c g e=>iff a c g e
 | .cH a c g=>ra a c g
 | .Try a c g e o=>tr a c g e o
 | .an a c=>dJ a c
 | .cB a=>a8 a
 |f=>B f
noncomputable def qk a2 a3 az(o:∀a c,n eD):n f:=mJ f B (nm:=o)
noncomputable def QH a2 a3 az(o:∀a c g,n eJ):n f:=mJ f B (rz:=o)
noncomputable def ahP a2 a3 az(o:∀a c g e,n eI):n f:=mJ f B (cN:=o)
noncomputable def QI a2 a3 az(o:∀a c,n eF):n f:=mJ f B (li:=o)
noncomputable def JL a2 a3 az(o:∀a c g,n eB):n f:=mJ f B (con:=o)
noncomputable def ahQ a2 a3 az(o:∀a c g e,n eH):n f:=mJ f B (cQ:=o)
noncomputable def Ga bo bp az(o:∀a c,n eM):n f:=vY f B (re:=o)
noncomputable def Uy bo bp az(o:∀a c g e o ag l D ak h,n eK):n f:=vY f B (bZ:=o)
noncomputable def QJ a2 a3 az(o:∀a c g,n eG):n f:=mJ f B (qH:=o)
noncomputable def aoh bo bp az(o:∀a c g e o ag l D ak h t,n eL):n f:=vY f B (cO:=o)
noncomputable def aoj bo bp az(o:∀a c g e,n eO):n f:=vY f B (Gv:=o)
noncomputable def aoi bo bp az(o:∀a c g e o,n eN):n f:=vY f B (b1:=o)
noncomputable def ED{n:cA->Sort v} eQ(B:∀g,n g)(o:∀V,n eR):n g:=match g with
 | .str V=>o V
 |g=>B g
noncomputable def pO aw{n:s Q->Sort v}(t:s Q)(aR:n [])(B:∀a r,n (a::r)):n t:=match t with
 |[]=>aR
 |a::r=>B a r
noncomputable def J4{n:cz->Sort v}(ag:cz)(B:∀ag,n ag)(o:∀N bl bA,n cj):n ag:=match ag with
 |cj=>o N bl bA
 |ag=>B ag
inductive kN where
 |bn (j:p) (g:L)
 |bm (j:p)
 |bw
 |bad
noncomputable abbrev jL:=s eu
structure Tb where
 bT:s a1
 bS:s (p×(s m->w m))
 dB:s (p×p)
 uv:s eS
noncomputable def lW aw:s (p×Q)->p->q Q
 |[],_=>none
 |aS::r,f=>match p.S f h with
  |true=>b v
  |false=>lW r f
noncomputable def oX:s eS->p->E->q p
 |[],_,_=>none
 |(g,f,a)::r,bR,A=>match p.S g bR with
  |true=>match j4 f A with
   |true=>b a
   |false=>oX r bR A
  |false=>oX r bR A
noncomputable def kN.aP:q kN->kN
 |b (.bn j true)=> .bm j
 |b (.bm j)=> .bm j
 |_=> .bad
noncomputable def lR(aP:s ck):s dg->p->s ck
 |[],_=>[]
 |(f,.local)::r,j=>(f,.bn j false)::lR aP r bJ
 |(f,.cell)::r,j=>(f,.bn j true)::lR aP r bJ
 |(f,.free)::r,j=>(f,kN.aP (lk aP f))::lR aP r j
 |(f,.globalImplicit)::r,j=>(f,.bw)::lR aP r j
 |(f,.globalExplicit)::r,j=>(f,.bad)::lR aP r j
noncomputable def cd:s ck->p
 |[]=>0
 |(_,.bn j _)::r=>p.max bJ eT
 |(_,.bm j)::r=>p.max bJ eT
 |_::r=>cd r
noncomputable def rK:s dg->p
 |[]=>0
 |(_,.local)::r=>rK r+1
 |(_,.cell)::r=>rK r+1
 |_::r=>rK r
noncomputable def uX ad aj al aF aI bK:w O:=match lk x f with
 |b eU=>match k[D]? with
  |b bG=>h v
  |_=>K
 |b (.bm D)=>match k[D]? with
  |b bG=>h v
  |_=>K
 |b .bw=>match lk z.bT f with
  |b v=>h v
  |none=>K
 |_=>K
noncomputable def oj aj al aF:q Bn:=match lk x f with
 |b .bw=>match lk z.bT f with
  |b (.a6 c)=>b c
  |_=>none
 |_=>none
noncomputable def Qg ad eQ bK:w O:=match g with
 | .none=>h .none
 | .av c=>h (.av c)
 | .W D=>h cl
 | .str V=>h eR
 |_=>K
noncomputable def jY ad aq(h:L->w O):w O:=match v with
 | .av c=>h c
 |_=>K
noncomputable def aQ dc:L:=decide (-1000000000<=D)&&decide (D<=1000000000)
noncomputable def tP aw ba(o:as->as->q Q):w Q:=Y λd=>y eV λf=>y bF λA=>o f A
noncomputable def kh(op:Operator) ba:w m:=match op with
 | .Add=>match uG a with
  |b _=>rB λi=>y eW λt=>y (tS i c) λr=>b (aN eX)
  |none=>tP a c λf A=>b (.W (f+A))
 | .Sub=>tP a c λf A=>b (.W (f -A))
 | .Mult=>match uG a with
  |b _=>rB λi=>y bF λh=>P (aQ h) (y eW λt=>b (aN (.ae (s.cW h.cY t).flatten)))
  |none=>tP a c λf A=>P (aQ f&&aQ A) (b (.W (f*A)))
 | .FloorDiv=>tP a c λf A=>P (decide eY&&aQ A) (b (.W (as.cT f A)))
 | .Mod=>tP a c λf A=>P (decide eY) (b (.W (as.fmod f A)))
 |_=>K
noncomputable def k6 ad(op:bX) dj bK:w O:=match op with
 | .Not=>match a with
  | .av c=>h (.av (!c))
  |_=>K
 | .USub=>match a with
  | .W D=>h (.W (-D))
  |_=>K
 |_=>K
noncomputable def tO ao dj aU:q L:=match l_ i j with
 |b t=>uP i a t
 |none=>y bH λU=>P (bB a) (y (pL U a) λG=>b G.b8)
theorem RY af bD aC cp c0:tO i a j=uP i a t:=by unfold tO;rw[pN l]
theorem ajP af bD aC eZ ew e1(aD:bB a=true)(dN:pL U a=b G):tO i a j=b G.b8:=by unfold tO;rw[FO l];exact (j7 e2).aH (by rw[aD];exact j7 dN)
noncomputable def zK ao ba:q L:=match tC c with
 |b t=>uP i a t
 |none=>y c2 (tO i a)
noncomputable def jN(op:CmpOp) ba:w L:=match op with
 | .Eq=>Y λi=>aB i 4 a c
 | .NotEq=>Y λi=>(aB i 4 a c).aO not
 | .Is=>Y λd=>qn a c
 | .IsNot=>Y λd=>(qn a c).aO not
 | .Lt=>tP a c λf A=>b (decide (f<A))
 | .LtE=>tP a c λf A=>b (decide (f<=A))
 | .Gt=>tP a c λf A=>b (decide (A<f))
 | .GtE=>tP a c λf A=>b (decide (A<=f))
 | .In=>Y λi=>zK i a c
 | .NotIn=>Y λi=>(zK i a c).aO not
structure It where
 b9:s m
 b4:jE->Prop
noncomputable def qE(a c g:as):s as:=if 0<g then (s.cb (as.cY ((c -a+g -1).cT g))).aO e3 else (s.cb (as.cY ((a -c -g -1).cT (-g)))).aO e3
noncomputable def rO aK:w It:=Y λd=>match M with
 |[c]=>y bF λc=>P (aQ c) (b ⟨(qE 0 c 1).aO .W,λd=>cK⟩)
 |e4=>y eV λa=>y bF λc=>y (tB g) λg=>P ((aQ a&&aQ c)&&(decide (g=1)||decide (g= -1))) (b ⟨(qE a c g).aO .W,λd=>cK⟩)
 |_=>none
noncomputable def uL:p->s m->s m
 |_,[]=>[]
 |j,v::r=> .au [.W j,v]::uL bJ r
noncomputable def m9 aq:w It:=Y λi=>match tC v with
 |b t=>b ⟨t,λd=>cK⟩
 |none=>y aG λj=>y ce λt=>b ⟨t,λi=>i[j]?=b bL⟩
noncomputable def KU da ao aK(o:p->p->s m->s m->β):q β:=match M with
 |dk=>y (uG a) λC=>y c2 λj=>y cf λt=>y ce λr=>b (o C j t r)
 |_=>none
noncomputable def yf aK:w It:=J (Y λi=>KU i M λC j a c=>(⟨s.dR e5 a c,λτ=>τ[C]?=b c4/\τ[j]?=b d6/\τ[i.T]?=b .oB⟩:It)) λD i=>b (.ok D,i++[.oB])
noncomputable def JN aK:w It:=Y λi=>match M with
 |[v]=>y aG λC=>y cf λa=>b ⟨uL 0 a,λi=>i[C]?=b c4⟩
 |_=>none
noncomputable def tT:s aL->L
 |(.str _,_)::_=>false
 |_=>true
noncomputable def Gs aq:w It:=Y λi=>y aG λj=>y bH λU=>P e7 (b ⟨U.aO (·.2),λi=>i[j]?=b e0⟩)
open dy in
noncomputable def vI dm:w aX:=λi=>if ag i then b (.ok (),i) else none
noncomputable def cX:s m->q as
 |[]=>b 0
 |v::r=>y e8 λD=>P (aQ D) (y (cX r) λak=>b d4)
noncomputable def Lp:s m->q m
 |[a]=>b a
 |_=>none
noncomputable def F5:s m->q aL
 |dk=>b (a,c)
 |_=>none
noncomputable def zV ao aU:q (w m):=match l_ i j with
 |b t=>b cm
 |none=>y bH λU=>P e7 (b e9)
theorem alA af aC cp c0:zV i j=b cm:=by unfold zV;rw[pN l]
theorem alz af aC eZ e1(b7:tT U=true):zV i j=b e9:=by unfold zV;rw[FO l];exact (j7 e2).aH (by rw[b7];rfl)
noncomputable def j8(c:Bn) aK:w m:=match c with
 | .len=>Y λi=>y bd λv=>y e_ λt=>b (.W t.T)
 | .dP=>Y λi=>y (F5 M) λX=>y (B7 i X.1 X.2) λF=>b fa
 | .abs=>Y λd=>y bd λv=>y e8 λD=>b (.W D.natAbs)
 | .W=>Y λd=>y bd λv=>y (PC v) λc=>b (.W (if c then 1 else 0))
 | .sum=>Y λi=>y bd λv=>y e_ λt=>y (cX t) λD=>b cl
 | .ae=>rB λi=>y bd λv=>y aG (zV i)
 |_=>K
noncomputable def k9 dt(C:s m->w m) aK:w m:=J (aN (.ay g [])) λself=>J (C (self::M)) λr=>match r with
 | .none=>aa self
 |_=>K
noncomputable def tE aj(o:m) aK:w m:=match o with
 | .a6 .ae=>K
 | .a6 c=>j8 c M
 | .ax a=>match lW z.dB a with
  |b D=>match lW z.bS D with
   |b C=>k9 a C M
   |none=>K
  |none=>match lW z.bS a with
   |b C=>C M
   |none=>K
 |_=>K
noncomputable def vS aF(t M:s m) aU ao:q (m×jE):=match j4 f lJ with
 |true=>y bd λab=>P (p.bu t.T a0) (b (.none,i.aE j (.ae (t++[ab]))))
 |false=>match j4 f m6 with
  |true=>y bd λab=>y (uG ab) λC=>y cf λr=>P (!p.S C j) (P (p.a5 (t.T+r.T) a0) (b (.none,i.aE j eX)))
  |false=>P (j4 f pB) (P M.cV (y t.getLast? λab=>b (ab,i.aE j (.ae t.dropLast))))
noncomputable def lQ aj aq aF aK:w m:=rB λi=>y aG λj=>match l_ i j with
 |b t=>b (aW (vS f t M j))
 |none=>y ci λg=>y fb λa=>y (lW z.bS a) λC=>b (C fc)
noncomputable def mG aj aq aF:w aX:=Y λi=>y aG λj=>match l_ i j with
 |b _=>P (j4 f lJ||(j4 f m6||j4 f pB)) fd
 |none=>y ci λg=>y fb λd=>P (lk g.2 f).isNone fd
inductive jI where
 |aa (v:m)
 |next (k:jL)
 |a8 (k:jL)
noncomputable def b2 dm(c:m->jL->w jI):s m->jL->w jI
 |[],k=>J cn λd=>aa fe
 |f::r,k=>J cn λd=>J (c f k) λb0=>match b0 with
  | .aa v=>aa dn
  | .next pG=>b2 ag c r pG
  | .a8 pG=>b2 ag c r pG
noncomputable def lZ ff fg:p->jL->w jI
 |0,_=>K
 |j+1,k=>J (g k) λN=>match N with
  |false=>aa fe
  |true=>J (c k) λb0=>match b0 with
   | .aa v=>aa dn
   | .next am=>lZ g c j am
   | .a8 am=>lZ g c j am
open dy in
noncomputable def lG ff fg aI:w jI:=λi=>
 if l:∃j,(lZ g c j k i).b8=true then lZ g c l.choose k i else none
noncomputable def quiet aw ed:w Q:=λi=>match C i with
 |b c_=>b c_
 |_=>none
noncomputable def ki dm(o:m->w aJ):s m->w aJ
 |[]=>J cn λd=>aa []
 |f::r=>J cn λd=>J (quiet (o f)) λa=>J (ki ag o r) λN=>aa (a++N)
noncomputable def rR ad al aF aq aI bM:w O:=match lk x f with
 |b eU=>match p.bu D k.T with
  |true=>h (k.aE D bG)
  |false=>K
 |_=>K
noncomputable def two ad bI(h:m->m->w O):w O:=match t with
 |dk=>h a c
 |_=>K
noncomputable def three ad bI(h:m->m->m->w O):w O:=match t with
 |e4=>h a c g
 |_=>K
noncomputable def CI ad al(ts:s an) bI aI bM:w O:=match ts with
 |[V,N]=>mJ V ar (nm:=λf d=>mJ N ar (nm:=λA d=>two t λa c=>rR x f a k λk=>rR x A c k h))
 |[V,N,u]=>mJ V ar (nm:=λf d=>mJ N ar (nm:=λA d=>mJ u ar (nm:=λaR d=>three t λa c g=>rR x f a k λk=>rR x A c k λk=>rR x aR g k h)))
 |_=>K
noncomputable def cZ ad aq(h:s m->w O):w O:=match v with
 | .au t=>h t
 |v=>J fh h
noncomputable def w4 ad al fi aq aI bM:w O:=
 mJ N ar (nm:=λf d=>rR x f v k h) (qH:=λts d d=>cZ v λt=>CI x ts t k h)
noncomputable def vP ad(f:q fj)(C:br->w O)(h:It->w O):w O:=match f with
 |b o=>o h
 |none=>C λv=>J (m9 v) h
noncomputable def FI ad(f:q fk)(C:co->w O) bK:w O:=match f with
 |b o=>o λt=>J cm h
 |none=>C λM=>J (j8 .ae M) h
noncomputable def Gw aK:w aJ:=Y λi=>KU i M λd d a c=>s.dR e5 a c
noncomputable def Cd ad:s (q an)->co->w O
 |[],h=>h []
 |G::r,h=>match G with
  |b e=>mJ e ar (con:=λg d d=>ED g ar λV=>Cd r λks=>h (.str V::ks))
  |none=>K
noncomputable def zF aF:s m->L
 |[]=>false
 | .str A::r=>match j4 f A with
  |true=>true
  |false=>zF f r
 |_::_=>true
noncomputable def wZ:s m->L
 |[]=>true
 | .str f::r=>match zF f r with
  |true=>false
  |false=>wZ r
 |_::_=>false
noncomputable def xU:q m->q (q as)
 |none=>b none
 |b cl=>b (b D)
 |_=>none
noncomputable def LZ bI fl:q aJ:=match g with
 |none=>match xU a with
  |b lo=>match xU c with
   |b bj=>b (cut t lo bj)
   |none=>none
  |none=>none
 |b cl=>match a,c,decide (D= -1) with
  |none,none,true=>b t.reverse
  |_,_,_=>none
 |_=>none
noncomputable def lY ad aq fl bK:w O:=J fh λt=>match LZ t a c g with
 |b t=>J cm h
 |none=>K
mutual
noncomputable def R ad aj al:an->jL->br->w O
 | .bQ g _ _,_,h=>Qg g h
 | .bU f _,k,h=>uX z x f k h
 | .bP op M _,k,h=>xo z x op M k h
 | .cw t op r _,k,h=>R z x t k λa=>R z x r k λc=>J (kh op a c) h
 | .bX op e _,k,h=>R z x e k λa=>k6 op a h
 | .cF N c G _,k,h=>R z x N k λg=>jY g λF=>match F with
  |true=>R z x c k h
  |false=>R z x G k h
 | .cC ks M _,k,h=>Cd ks λks=>lP z x M k λM=>match p.S ks.T M.T&&wZ ks with
  |true=>J (aN (.aZ (ks.zip M))) h
  |false=>K
 | .s U _,k,h=>lP z x U k λM=>J fm h
 | .cL U _ _,k,h=>lP z x U k λM=>match p.a5 M.T a0 with
  |true=>h (.au M)
  |false=>K
 | .cG e gens sc _,k,h=>match gens with
  |cj::cc=>match p.S fn k.T with
   |false=>K
   |true=>vP dp dq λD=>
    J (ki D.b4 (λf=>w4 cq N f (k++s.cW fo none) λam=>
     zj z cq bA am λF=>match F with
      |false=>aa []
      |true=>EN aX z cq (λpG=>R z cq e pG λv=>aa [v]) cc am) D.b9) λM=>J fm h
  |_=>K
 | .cy t ops rs _,k,h=>R z x t k λa=>EM z x a ops rs k h
 | .aM fp args [] _,k,h=>R z x G k λv=>J (mG z v a) λd=>lP z x args k λM=>J (lQ z v a M) h
 | .aM dr args [] _,k,h=>match oj z x f with
  |b .ae=>FI (zY z x args k) (lP z x args k) h
  |_=>uX z x f k λo=>lP z x args k λM=>J fq h
 | .aM o args [] _,k,h=>R z x o k λo=>lP z x args k λM=>J fq h
 | .bs G a _,k,h=>R z x G k λv=>J (kF v a) h
 | .bW G (.bV lo bj st _) _,k,h=>R z x G k λv=>EO z x lo k λa=>EO z x bj k λc=>EO z x st k λg=>lY v a c g h
 | .bW G D _,k,h=>R z x G k λv=>R z x D k λak=>J (jT v ak) h
 | .bV ..,_,_=>K
 | .Set ..,_,_=>K
 | .cJ ..,_,_=>K
 | .cD ..,_,_=>K
 |_,_,_=>K
noncomputable def EO ad aj al:q an->jL->(q m->w O)->w O
 |none,_,h=>h none
 |b e,k,h=>R z x e k λv=>h bG
noncomputable def lP ad aj al:s an->jL->co->w O
 |[],_,h=>h []
 |e::r,k,h=>R z x e k λv=>lP z x r k λM=>h fc
noncomputable def xo ad aj al(op:bP):s an->jL->br->w O
 |[],_,_=>K
 |[e],k,h=>R z x e k h
 |e::r,k,h=>R z x e k λv=>jY v λF=>match op,F with
  | .And,false=>h fr
  | .Or,true=>h (.av true)
  | .And,true=>xo z x op r k h
  | .Or,false=>xo z x op r k h
noncomputable def EM ad aj al dj:s CmpOp->s an->jL->br->w O
 |[op],[e],k,h=>R z x e k λc=>J fs λF=>h fa
 |op::ops,e::U,k,h=>R z x e k λc=>J fs λF=>match F with
  |true=>EM z x c ops U k h
  |false=>h fr
 |_,_,_,_=>K
noncomputable def uT ad aj al:an->jL->q fj
 | .aM fp [] [] _,k=>match j4 a vF with
  |true=>b λh=>R z x G k λv=>J (Gs v) h
  |false=>none
 | .aM dr args [] _,k=>match oj z x f with
  |b .cb=>b λh=>lP z x args k λM=>J (rO M) h
  |b .zip=>b λh=>lP z x args k λM=>J (yf M) h
  |b .dI=>b λh=>lP z x args k λM=>J (JN M) h
  |_=>none
 |_,_=>none
noncomputable def zY ad aj al:s an->jL->q fk
 |[.aM (.bs ..) _ [] _],_=>none
 |[.aM dr args [] _],k=>match oj z x f with
  |b .zip=>b λh=>lP z x args k λM=>J (Gw M) h
  |_=>none
 |_,_=>none
noncomputable def zj ad aj al:s an->jL->(L->w O)->w O
 |[],_,h=>h true
 |e::r,k,h=>R z x e k λv=>jY v λF=>match F with
  |true=>zj z x r k h
  |false=>h false
noncomputable def EN(_:Type) aj al(cS:jL->w aJ):s cz->jL->w aJ
 |[],k=>cS k
 |cj::cc,k=>
   vP dp dq λD=>ki D.b4 (λf=>w4 x N f k λam=>
    zj z x bA am λF=>match F with
     |false=>aa []
     |true=>EN aX z x cS cc am) D.b9
 |_,_=>K
end
noncomputable def oN aw aq:w Q:=λi=>match v with
 | .Z j=>match i[j]? with
  |b (.ay g a9)=>match p.S g 38 with
   |true=>b (.bY v,i.aE j (.ay 39 a9))
   |false=>none
  |_=>none
 |_=>none
noncomputable def EP aq aF:w m:=Y λi=>y aG λj=>y (B5 39 i j) λa9=>P (j4 f rq) (lk a9 f)
noncomputable def zo aK:w m:=λi=>match M with
 |[.Z j,a,c]=>match i[j]? with
  |b (.ay 38 [])=>b (.ok .none,i.aE j (.ay 38 [(rq,a),(vC,c)]))
  |_=>none
 |_=>none
noncomputable def rV(C:w m)(V a:E):w m:=λi=>match C i with
 |b ft=>b ft
 |b (.bY f,be)=>J (EP f a) (λv=>aN (.ae [.str V,v])) be
 |none=>none
noncomputable def afl ad aj al fi aq aI bM:w O:=
 mJ N ar (nm:=λf d=>rR x f v k h) (qH:=λts d d=>cZ v λt=>CI x ts t k h) (rz:=λG a d=>R z x G k λab=>J (lS ab a v) λd=>h k) (rT:=λG D d=>R z x G k λab=>R z x D k λak=>J (pn ab ak v) λd=>h k)
noncomputable def E_:q kN->L
 |b .bw=>true
 |_=>false
noncomputable def E7:q m->L
 |b v=>p.S ((Bx v).b3 0) 38
 |none=>false
noncomputable def ap8 ad aj al(c:s ap)(b6:s dA) aI fu:w O:=match c,b6 with
 |[V],[.dA (b dF) (b j) [s'] _]=>Ga V ar (λG d=>match G with
  |b e=>qk dF ar (λg d=>Ga s' ar (λG d=>match G with
   |b t=>QI t ar (λU d=>match U with
    |[f,A]=>JL f ar (λV d d=>ED V ar λV=>QH A ar (λG a d=>qk G ar (λn' d=>match j4 j n'&&(E_ (lk x g)&&E7 (lk z.bT g)) with
     |true=>J (rV (R z x e k aa) V a) kr
     |false=>K)))
    |_=>K)
   |none=>K))
  |none=>K)
 |_,_=>K
noncomputable def kY ad bM fu:jI->w O
 | .aa v=>kr v
 | .next k=>h k
 | .a8 _=>K
mutual
noncomputable def Q0 ad aj al:ap->jL->bN->br->bN->w O
 | .cE ..,_,_,_,_=>K
 | .cx ..,_,_,_,_=>K
 | .cI fv _,k,_,kr,_=>R z x e k kr
 | .cv [N] e _,k,h,_,_=>R z x e k λv=>afl z x N v k h
 | .For N bl c [] _,k,h,kr,_=>vP dp dq λD=>
   J (b2 D.b4 (λf k=>w4 x N f k λk=>lD z x c k cr cs λam=>aa ct) D.b9 k) fw
 | .cM N c [] _,k,h,kr,_=>J (lG (λk=>R z x N k λv=>jY v aa) (λk=>lD z x c k cr cs λam=>aa ct) k) fw
 | .If N c G _,k,h,kr,l5=>R z x N k λv=>jY v λF=>match F with
  |true=>lD z x c k h kr l5
  |false=>lD z x G k h kr l5
 | .cH fv none _,k,_,_,_=>R z x e k λv=>oN v
 | .Try c b6 [] [] _,k,_,kr,_=>ap8 z x c b6 k kr
 | .an e _,k,h,_,_=>R z x e k λd=>h k
 | .cB _,k,_,_,l5=>l5 k
 |_,_,_,_,_=>K
noncomputable def lD ad aj al:s ap->jL->bN->br->bN->w O
 |[],k,h,_,_=>h k
 |V::r,k,h,kr,l5=>Q0 z x V k (λam=>lD z x r am h kr l5) kr l5
end
noncomputable def Gb ad al:s Arg->s m->jL->bN->w O
 |[],[],k,h=>h k
 |⟨f,_,_⟩::r,v::M,k,h=>rR x f v k λam=>Gb x r M am h
 |_,_,_,_=>K
noncomputable def LQ aj(ps:s Arg)(a7:s ap)(sc:Scope) fx fy:w m:=
 Gb fz ps (args++oW.drop (oW.T -(ps.T -args.T))) (s.cW fo none) λk=>
 lD z fz a7 k (λd=>aa .none) aa ar
noncomputable def Aj:ap->q (s Arg×s ap×Scope):=λe=>Uy e (λd=>none) (λd ps a7 d d d sc d d d=>b (ps.args,a7,sc))
@[irreducible] noncomputable def kc aj fB fx fy:w m:=match Aj st with
 |b X=>LQ z X.1 X.2.1 X.2.2 oW args
 |none=>K
noncomputable def kP:ap->s ap:=λe=>vY e du (bZ:=λd d c d d d d d d d=>c) (iff:=λd c d d=>c) (Gv:=λd c d d=>c) (b1:=λd d c d d=>c)
noncomputable def as9:ap->s ap:=λe=>vY e du (iff:=λd d G d=>G)
noncomputable def ao_ bO:an:=aoj (n:=λd=>an) V fD (λN d d d=>N)
noncomputable def ao9 bO:an:=aoi (n:=λd=>an) V fD (λN d d d d=>N)
noncomputable def oY:ap->s dg:=λe=>Uy e du (λd d d d d d sc d d d=>sc.b_)
noncomputable def m_(t:s ap) dv:ap:=(t[D]?).b3 dw
noncomputable def qZ aj al bO aI:w L:=R z x (ao_ V) k λv=>jY v aa
noncomputable def qY aj al bO aI:w jI:=lD z x fF k cr cs λam=>aa ct
noncomputable def sC aj al bO ee aI:w jI:=w4 x (ao9 V) f k λk=>lD z x fF k cr cs λam=>aa ct
noncomputable def jO dv:ap:=(H.Challenge.pw_sq0005_01.main.a7[D]?).b3 dw
noncomputable def inClass fB dv:ap:=aoh st (λV=>V) (λd d d a7 d d d d d d d=>(a7[D]?).b3 dw)
end
mutual
example _ jO Str ofString Fn Tab glob tb kc some s w p K at_ o[by decide+b1]h mL b C u v heap Nat a List type ref ζ c d n5 Bool Option get? x params Value int os fd qA inClass P bn all treeTable e findIn i q t _ _ _ _ _ _ _ _ _ _ _ vt H₀ ac Shared builtin k n obs(q:aU)(k:aA)N data f map val[.B 38]M abs cd «at» cls prog r[i (.B 6)]Program PySem World h₀ mainGlobals row[a 33](m:be)[by kernel_rfl]body congrArg gs₀ hv main nsMap size typeIn[.B y](N:OsState)Data F Fast Heap LeftO Stmt bool d₀ g0 hr isNs keepIn k₀ loose slots topRun{α:Type}[.B D][i none][ab k.K][[topFrame Cy]]Challenge Classical Code Frag Prod Q builtinsNs fields gensDone gs hasDictIn hk l laidKept maxRecDepth mroIn m₀ namesBound openGood openSeen open_ plainGet scope «by» staticsOk toList topFrom(J:b)[.ae "object.__class__"][i (.A "function")][mg J](j:ad)[bY l.aL.aH][bY F.aL.aH][recOk []][by decide]G Params S SharedT T boot_heap cStatics ds enumerate fl globals hasDict hs importedModules isinstance j kernel length mainNs map_eq_some_iff topStub wellSaid[a 6][a 7][[.none]][a 8][[.f 64]][x×aW×z jD](D:x)[W m a8 J][i (i (.ae "object.__setattr__"))][i true][i (.A "type")][i aP][.B X][.B 35][Array L][.B 643](v:L)[Mz v][([]:z Arg)][(none:H Arg)](t:aa)[ak -aq][.B 3][⟨bQ k.K,#[],boot_drawn,boot_toks,N⟩][b5 F][bQ k.K][bz bI cv j.w&&bs F j.w&&bj j&&bo cv j.w][⟨doneF .next,D,l,ba⟩][Eh k N][piecesOf bdy JO w6 Cy ba][x×x][(82,79)][(104,101)][(125,122)][(334,317)][by rfl]B:True:=x
noncomputable def Og:z (b×jD):=[
 (b.c "len",.S .len),
 (b.c "range",.S .range),
 (b.c "isinstance",.S .bZ),
 (b.c "list",.S .list),
 (b.c "zip",.S .zip),
 (b.c "enumerate",.S .bT),
 (b.c "abs",.S .ar),
 (b.c "int",.S .M),
 (b.c "sum",.S .sum),
 (b.c "str",.S .str),
 (b.c "bool",.S .aX),
 (b.c "LispSignal",.f 38),
 (b.c "Symbol",.f 58),
 (b.c "NIL",.f 64),
 (b.c "Cons",.f 82),
 (b.c "Text",.f 104),
 (b.c "Vector",.f 125),
 (b.c "ByteCode",.f 146),
 (b.c "Opaque",.f 181),
 (b.c "list_of",.f 193),
 (b.c "split_list",.f 200),
 (b.c "is_whole",.f 207),
 (b.c "is_list",.f 214),
 (b.c "LONGEST",.M 1048576),
 (b.c "wrong",.f 221),
 (b.c "need_list",.f 228),
 (b.c "need_cons",.f 235),
 (b.c "need_whole",.f 242),
 (b.c "need_bounded",.f 249),
 (b.c "need_size",.f 256),
 (b.c "things_of",.f 263),
 (b.c "cdr_of",.f 270),
 (b.c "lisp_cons",.f 277),
 (b.c "lisp_setcdr",.f 284),
 (b.c "MOST_STEPS",.M 8388608),
 (b.c "MOST_DEEP",.M 200),
 (b.c "eq",.f 291),
 (b.c "parts_of",.f 296),
 (b.c "are_of_one_class",.f 303),
 (b.c "Task",.f 334),
 (b.c "equal_by",.f 343),
 (b.c "are_any",.f 350),
 (b.c "equal",.f 357),
 (b.c "ring_of",.f 364),
 (b.c "rest_at",.f 371),
 (b.c "LAST_CODE",.M 4194303),
 (b.c "is_code",.f 378),
 (b.c "need_code",.f 385),
 (b.c "is_array",.f 392),
 (b.c "things_in",.f 399),
 (b.c "alike",.f 404),
 (b.c "need_place",.f 411),
 (b.c "lisp_length",.f 418),
 (b.c "lisp_safe_length",.f 425),
 (b.c "lisp_elt",.f 432),
 (b.c "lisp_aref",.f 439),
 (b.c "lisp_aset",.f 446),
 (b.c "lisp_fillarray",.f 453),
 (b.c "lisp_vector",.f 460),
 (b.c "lisp_make_vector",.f 467),
 (b.c "lisp_append",.f 474),
 (b.c "lisp_vconcat",.f 481),
 (b.c "lisp_copy_sequence",.f 488),
 (b.c "lisp_reverse",.f 495),
 (b.c "lisp_nreverse",.f 502),
 (b.c "lisp_delete",.f 507),
 (b.c "lisp_remove",.f 512),
 (b.c "_law_draw",.f 519),
 (b.c "_law_pick",.f 526),
 (b.c "_law_made",.f 533),
 (b.c "_law_array",.f 540),
 (b.c "_law_chain",.f 547),
 (b.c "_law_things",.f 552),
 (b.c "_law_like",.f 557),
 (b.c "_law_reached",.f 564),
 (b.c "_law_alike",.f 571),
 (b.c "_law_at",.f 578),
 (b.c "_law_left",.f 583),
 (b.c "_law_turned",.f 590),
 (b.c "_law_due",.f 595),
 (b.c "_law_is_same",.f 600),
 (b.c "_law_is_held",.f 607),
 (b.c "_law_holds",.f 612),
 (b.c "_law_own",.f 619),
 (b.c "_law_told",.f 626),
 (b.c "_law_args",.f 633),
 (b.c "_law_is_round",.f 638)]
noncomputable def q7:z cA:=[(58,55),cB,cC,cD,(146,143),cE]
noncomputable def s7:z (x×b×x):=[(334,wU,324),(334,wV,331)]
noncomputable abbrev d:=z jD->aq jD
noncomputable abbrev e:=z (x×d)
noncomputable def g(aS:e):Tb:=⟨Og,aS,q7,s7⟩
noncomputable def Dl:e:=[]
noncomputable abbrev uf:d:=zo
noncomputable def G0:e:=(38,k9 38 uf)::Dl
noncomputable def yj:d:=h (g G0) (Q b7 0) []
noncomputable def Hf:e:=(79,yj)::G0
noncomputable def ug:d:=h (g Hf) (Q b8 0) b9
noncomputable def Ho:e:=(101,ug)::Hf
noncomputable def sU:d:=h (g Ho) (Q b_ 0) []
noncomputable def Hz:e:=(122,sU)::Ho
noncomputable def vm:d:=h (g Hz) (Q aE 0) []
noncomputable def HG:e:=(317,vm)::Hz
noncomputable def C9:d:=h (g HG) (Q aE 1) []
noncomputable def HN:e:=(324,C9)::HG
noncomputable def C8:d:=h (g HN) (Q aE 2) []
noncomputable def DH:e:=(331,C8)::HN
noncomputable def sX:d:=h (g DH) (a 11) ca
noncomputable def DI:e:=(193,sX)::DH
noncomputable def AY:d:=h (g DI) (a 12) []
noncomputable def HR:e:=(200,AY)::DI
noncomputable def sW:d:=h (g HR) (a 13) []
noncomputable def G1:e:=(207,sW)::HR
noncomputable def yk:d:=h (g G1) (a 14) []
noncomputable def G2:e:=(214,yk)::G1
noncomputable def q4:d:=h (g G2) (a 17) []
noncomputable def G3:e:=(221,q4)::G2
noncomputable def yw:d:=h (g G3) (a 18) []
noncomputable def G4:e:=(228,yw)::G3
noncomputable def Dg:d:=h (g G4) (a 19) []
noncomputable def G5:e:=(235,Dg)::G4
noncomputable def yy:d:=h (g G5) (a 20) []
noncomputable def G6:e:=(242,yy)::G5
noncomputable def AW:d:=h (g G6) (a 21) []
noncomputable def G7:e:=(249,AW)::G6
noncomputable def GX:d:=h (g G7) (a 22) []
noncomputable def G8:e:=(256,GX)::G7
noncomputable def Dj:d:=h (g G8) (a 23) []
noncomputable def G9:e:=(263,Dj)::G8
noncomputable def Dc:d:=h (g G9) (a 24) []
noncomputable def G_:e:=(270,Dc)::G9
noncomputable def AK:d:=h (g G_) (a 25) []
noncomputable def Hg:e:=(277,AK)::G_
noncomputable def AS:d:=h (g Hg) (a 26) []
noncomputable def Hh:e:=(284,AS)::Hg
noncomputable def Dd:d:=h (g Hh) (a 30) []
noncomputable def Dm:e:=(291,Dd)::Hh
noncomputable def Dh:d:=h (g Dm) (a 31) []
noncomputable def Dn:e:=(296,Dh)::Dm
noncomputable def C_:d:=h (g Dn) (a 32) []
noncomputable def Hi:e:=(303,C_)::Dn
noncomputable def GP:d:=h (g Hi) (a 35) []
noncomputable def uq:e:=(350,GP)::Hi
noncomputable def De:d:=h (g uq) (a 34) []
noncomputable def Hj:e:=(343,De)::uq
noncomputable def sV:d:=h (g Hj) (a 36) []
noncomputable def Dp:e:=(357,sV)::Hj
noncomputable def AX:d:=h (g Dp) (a 38) []
noncomputable def Dq:e:=(364,AX)::Dp
noncomputable def Di:d:=h (g Dq) (a 39) []
noncomputable def Hl:e:=(371,Di)::Dq
noncomputable def Df:d:=h (g Hl) (a 42) []
noncomputable def Hp:e:=(378,Df)::Hl
noncomputable def vq:d:=h (g Hp) (a 43) []
noncomputable def Hq:e:=(385,vq)::Hp
noncomputable def AD:d:=h (g Hq) (a 44) []
noncomputable def Hr:e:=(392,AD)::Hq
noncomputable def uo:d:=h (g Hr) (a 45) []
noncomputable def Hs:e:=(399,uo)::Hr
noncomputable def wh:d:=h (g Hs) (a 46) []
noncomputable def Ht:e:=(404,wh)::Hs
noncomputable def yx:d:=h (g Ht) (a 47) []
noncomputable def Hu:e:=(411,yx)::Ht
noncomputable def AO:d:=h (g Hu) (a 48) []
noncomputable def Hv:e:=(418,AO)::Hu
noncomputable def yv:d:=h (g Hv) (a 49) []
noncomputable def Hw:e:=(425,yv)::Hv
noncomputable def yr:d:=h (g Hw) (a 51) []
noncomputable def Hx:e:=(439,yr)::Hw
noncomputable def yt:d:=h (g Hx) (a 50) []
noncomputable def Hy:e:=(432,yt)::Hx
noncomputable def AJ:d:=h (g Hy) (a 52) []
noncomputable def HA:e:=(446,AJ)::Hy
noncomputable def AN:d:=h (g HA) (a 53) []
noncomputable def HB:e:=(453,AN)::HA
noncomputable def AV:d:=h (g HB) (a 54) []
noncomputable def HC:e:=(460,AV)::HB
noncomputable def AP:d:=h (g HC) (a 55) []
noncomputable def Dr:e:=(467,AP)::HC
noncomputable def AI:d:=h (g Dr) (a 56) []
noncomputable def Ds:e:=(474,AI)::Dr
noncomputable def AU:d:=h (g Ds) (a 57) []
noncomputable def HD:e:=(481,AU)::Ds
noncomputable def AL:d:=h (g HD) (a 58) []
noncomputable def HE:e:=(488,AL)::HD
noncomputable def yu:d:=h (g HE) (a 59) []
noncomputable def Dt:e:=(495,yu)::HE
noncomputable def AQ:d:=h (g Dt) (a 60) []
noncomputable def Du:e:=(502,AQ)::Dt
noncomputable def AM:d:=h (g Du) (a 61) []
noncomputable def HF:e:=(507,AM)::Du
noncomputable def AR:d:=h (g HF) (a 62) []
noncomputable def HH:e:=(512,AR)::HF
noncomputable def qe:d:=h (g HH) (a 64) []
noncomputable def HJ:e:=(519,qe)::HH
noncomputable def q3:d:=h (g HJ) (a 65) []
noncomputable def Dv:e:=(526,q3)::HJ
noncomputable def wo:d:=h (g Dv) (a 66) []
noncomputable def Dw:e:=(533,wo)::Dv
noncomputable def um:d:=h (g Dw) (a 67) []
noncomputable def Dy:e:=(540,um)::Dw
noncomputable def wm:d:=h (g Dy) (a 68) []
noncomputable def HK:e:=(547,wm)::Dy
noncomputable def vp:d:=h (g HK) (a 69) []
noncomputable def HL:e:=(552,vp)::HK
noncomputable def vo:x->d
 |0=>λC=>stuck
 |ag+1=>h (g ((557,vo ag)::HL)) (a 70) []
noncomputable def yl:d:=vo 100
noncomputable def A0:e:=(557,yl)::HL
noncomputable def yo:d:=h (g A0) (a 71) []
noncomputable def HM:e:=(564,yo)::A0
noncomputable def uh:d:=h (g HM) (a 72) []
noncomputable def Dz:e:=(571,uh)::HM
noncomputable def wk:d:=h (g Dz) (a 73) []
noncomputable def DA:e:=(578,wk)::Dz
noncomputable def AH:d:=h (g DA) (a 74) []
noncomputable def DB:e:=(583,AH)::DA
noncomputable def yq:d:=h (g DB) (a 75) []
noncomputable def HO:e:=(590,yq)::DB
noncomputable def l9:d:=h (g HO) (a 76) []
noncomputable def DC:e:=(595,l9)::HO
noncomputable def AG:d:=h (g DC) (a 78) []
noncomputable def DE:e:=(607,AG)::DC
noncomputable def rZ:d:=h (g DE) (a 77) []
noncomputable def DF:e:=(600,rZ)::DE
noncomputable def AF:d:=h (g DF) (a 79) []
noncomputable def HP:e:=(612,AF)::DF
noncomputable def ym:d:=h (g HP) (a 80) []
noncomputable def yE:e:=(619,ym)::HP
noncomputable def yp:d:=h (g yE) (a 81) []
noncomputable def HQ:e:=(626,yp)::yE
noncomputable def wj:d:=h (g HQ) (a 82) []
noncomputable def DG:e:=(633,wj)::HQ
noncomputable def vn:d:=h (g DG) (a 83) []
noncomputable def yF:e:=(638,vn)::DG
noncomputable def AE:d:=h (g yF) (a 84) []
noncomputable def ar3:e:=(643,AE)::yF
mutual
section
open az.bb az.Calls
set_option bp 100000
noncomputable def BB:Bn->L
 | .len=> .ae "len"
 | .range=> .A "range"
 | .bZ=> .ae "isinstance"
 | .list=> .A "list"
 | .zip=> .A "zip"
 | .bT=> .A "enumerate"
 | .ar=> .ae "abs"
 | .M=> .A "int"
 | .sum=> .ae "sum"
 | .str=> .A "str"
 | .aX=> .A "bool"
noncomputable def Of:z cb:=[
 (79,Q b7 0,[]),
 (101,Q b8 0,b9),
 (122,Q b_ 0,[]),
 (317,Q aE 0,[]),
 (324,Q aE 1,[]),
 (331,Q aE 2,[]),
 (193,a 11,ca),
 (200,a 12,[]),
 (207,a 13,[]),
 (214,a 14,[]),
 (221,a 17,[]),
 (228,a 18,[]),
 (235,a 19,[]),
 (242,a 20,[]),
 (249,a 21,[]),
 (256,a 22,[]),
 (263,a 23,[]),
 (270,a 24,[]),
 (277,a 25,[]),
 (284,a 26,[]),
 (291,a 30,[]),
 (296,a 31,[]),
 (303,a 32,[]),
 (350,a 35,[]),
 (343,a 34,[]),
 (357,a 36,[]),
 (364,a 38,[]),
 (371,a 39,[]),
 (378,a 42,[]),
 (385,a 43,[]),
 (392,a 44,[]),
 (399,a 45,[]),
 (404,a 46,[]),
 (411,a 47,[]),
 (418,a 48,[]),
 (425,a 49,[]),
 (439,a 51,[]),
 (432,a 50,[]),
 (446,a 52,[]),
 (453,a 53,[]),
 (460,a 54,[]),
 (467,a 55,[]),
 (474,a 56,[]),
 (481,a 57,[]),
 (488,a 58,[]),
 (495,a 59,[]),
 (502,a 60,[]),
 (507,a 61,[]),
 (512,a 62,[]),
 (519,a 64,[]),
 (526,a 65,[]),
 (533,a 66,[]),
 (540,a 67,[]),
 (547,a 68,[]),
 (552,a 69,[]),
 (557,a 70,[]),
 (564,a 71,[]),
 (571,a 72,[]),
 (578,a 73,[]),
 (583,a 74,[]),
 (590,a 75,[]),
 (595,a 76,[]),
 (607,a 78,[]),
 (600,a 77,[]),
 (612,a 79,[]),
 (619,a 80,[]),
 (626,a 81,[]),
 (633,a 82,[]),
 (638,a 83,[]),
 (643,a 84,[])]
noncomputable def GK:z cA:=[cB,cC,cD,cE]
noncomputable abbrev F:ay:=pw_sq0005_01
noncomputable def P a7(o:H α)(l:α->G):G:=match o with
 |i y=>l y
 |none=>false
noncomputable def r7:z cb:=Of++[(35,Q (a 2) 0,[])]
noncomputable def Om:z x:=[38,37,58,57,55,64,63,82,81,104,103,125,124,146,145,181,180,178,334,333]++r7.an (·.1)
noncomputable def KF ai:be:=Om.filterMap λy=>(q.I y).an λo=>(y,o)
noncomputable def r a7[DecidableEq α](y s:α):G:=decide (y=s)
noncomputable def PJ aF cc bC:G:=bw m D J&&(bl m D&&(r cd a9&&(r (W m a8 "__setattr__") ce&&plainOver m D)))
noncomputable def Sb aF:G:=
 ([82,104,125,58].T λE=>bw m E "__class__"&&(bl m E&&(r (W m (.B E) "__class__") (i (i bD))&&r (bq m E (.A "object")) cf)))&&
 (r (specialIn m bD "__get__") (i (i (.ae "getset_descriptor.__get__")))&&(r (takesIn m bD) cf&&
 (([82,104,125,146,181].T λD=>(clsIn m D).isSome&&r (aO m a8) cg)&&
 (([82,104,125,58].T λE=>[82,104,125,146,181].T λD=>r (bq m E a8) (i (x.beq E D)))&&
 ([82,104,125,58].T λE=>["int","bool","str"].T λZ=>r (bq m E (.A Z)) (i false))))))
noncomputable def SY aF cc bC(y:x):G:=bw m D J&&(bl m D&&(r cd (i ch)&&(r (aO m aP) bE&&a2 m aP)))
noncomputable def P7 aF(y X:x):G:=makesIn m y&&(r (W m aP "__init__") (i (i ci))&&(r (aO m ci) bE&&a2 m aP))
noncomputable def VJ aF:G:=r (W m ap "__setattr__") ce&&(r (W m ap "__getattribute__") (i (i (.ae "BaseException.__getattribute__")))&&(r (W m ap "__getattr__") a9&&
 (r (W m ap "symbol") a9&&(r (W m ap "data") a9&&(P (clsIn m 38) (λas=>as.bW&&r as.mro [.B 38,.A "Exception",.A "BaseException",.A "object"])&&
 (r (aO m ap) cg&&(r (W m ap "__init__") (i (i cj))&&(r (aO m cj) bE&&a2 m ap))))))))
noncomputable def aiF aF:G:=nO.T (λl=>PJ m l.1 l.2)&&(Sb m&&(s7.T (λl=>SY m l.1 l.2.1 l.2.2)&&(GK.T (λl=>P7 m l.1 l.2)&&(VJ m&&r7.T (λl=>a2 m (.B l.1))))))
noncomputable def Jk:jD->H Bn
 | .S y=>i y
 |_=>none
noncomputable def vInt:L->H Int
 | .M X _=>i X
 |_=>none
noncomputable def Mz:L->H x
 | .B X=>i X
 |_=>none
noncomputable def vStr:L->H b
 | .str X _=>i X
 |_=>none
noncomputable def Qo:aR->H FuncData
 | .func am=>i am
 |_=>none
noncomputable def Qm:aR->H ClassData
 | .au am=>i am
 |_=>none
noncomputable def Qn:aR->H ck
 | .bi am=>i am
 |_=>none
noncomputable def Qp:aR->H ck
 | .seq am _=>i am
 |_=>none
noncomputable def K2(mg mb:b->H L) bC(v:jD):G:=match Bx v with
 |i y=>r bF ch&&x.blt y 644
 |none=>match Jk v with
  |i s=>r bF none&&r (mb J) (i (BB s))
  |none=>P (tB v) λX=>P bF λk=>P (vInt k) λb0=>r X b0
noncomputable def Ti ai:H (L×G):=ob (q.I 64) λo=>ob o.dict λE=>ob (q.I E) λC=>i (o.au,match o.al with| .plain=>true|_=>false)
noncomputable def ajd ai:G:=q.a1 aC&&(q.a1 bh&&(q.a1 bR&&(r (q.aM bR "sys.recursionlimit") none&&(Og.T (λl=>K2 (q.aM aC) (q.aM bh) l.1 l.2)&&r (q.aM aC "law") (i cl)))))
noncomputable def codeB ai(Y:b) cm:G:=P cn λD=>P (q.I D) λo=>P (Qn o.al) λvs=>P vs[1]? λk=>P (vStr k) λq'=>j4 q' Y
noncomputable def Qx(E:jD)(k:L):G:=match E with
 | .none=>(match k with| .none=>true|_=>false)
 | .f y=>P (Mz k) λs=>x.beq y s&&x.blt y 644
 |_=>false
noncomputable def Qw ai(bS:z jD) cm:G:=match bS with
 |[]=>(match v with| .none=>true|_=>false)
 |[E]=>P cn λbP=>P (q.I bP) λo=>P (Qp o.al) λxs=>(match xs.bA with|[k]=>Qx E k|_=>false)
 |_=>false
noncomputable def BP ai(l:x×aW×z jD):=ob (q.I l.1) λo=>ob (Qo o.al) λO=>i (O.K.posonlyargs,O.K.args,O.K.vararg,O.K.kwonlyargs,O.K.kwarg,O.aH,O.bx,O.bV,O.closure,O.builtins,codeB q O.qualname O.code&&Qw q l.2.2 O.defaults)
noncomputable def xq(st:aW):=ob (Aj st) λl=>i (co,l.1,cp,co,cp,FuncBody.stmts l.2.1,l.2.2,aC,([]:z (b×Addr)),bh,true)
noncomputable def VK ai:=ob (q.I 38) λo=>ob (Qm o.al) λas=>i (o.au,as.mro,as.bW,as.hasDel,o.a5.bA.b2,o.a5.bA[4]?)
noncomputable def ah bG:=(aiF (KF j.w)&&ajd j.w,Ti j.w,VK j.w,r7.an (BP j.w))
noncomputable def ao:=(true,i (L.B 58,true),i (L.A "type",[L.B 38,.A "Exception",.A "BaseException",.A "object"],true,false,6,i (i (L.ae "Exception.__new__"))),r7.an λl=>xq l.2.1)
noncomputable def A8(l:ay) aj ai:Prop:=∀bG (bn:Addr) (vs:z L) (ns:z Int) (bg:Result->ad->Prop),j.w=q->j.w.IsList bn vs.toArray->ns.b2<=1000000->IntsAre vs ns->
 (∀h' tk,(∀s o,j.w.I s=i o->∃sl,h'.I s=i {o with a5:=sl})->(∀s o,j.w.I s=i o->h'.I s=i o)->bg (.ok (.ret (.aX true))) {j with w:=h',toks:=tk})->codeAny (model l k) callerA (.call cl ⟨[.B bn],[]⟩) bg j
structure aa where
 av:ay
 k:aA
 aB:aU
 top:ad
structure aa.Ok(t:aa):Prop where
 ob:ah t.top=ao
 keep:∀s o,t.top.w.I s=i o->t.aB.I s=i o
noncomputable def t:aa:=@bc.epsilon aa ⟨⟨F,⟨λC C=>0,{strHash:=λC=>0,shareClass:=λy=>y,mergeTok:=λZ=>Z,idOf:=λC=>0,idOfShared:=λC C=>0,followText:=λC=>false,idOfImm:=λC=>0}⟩,{},{}⟩⟩ λt=>t.Ok/\¬A8 t.av t.k t.aB
theorem aky{l:ay}{k:aA}{q:aU}{j:ad}(V:ah j=ao)(af:∀s o,j.w.I s=i o->q.I s=i o)(Y:t.Ok->A8 t.av t.k t.aB):A8 l k q:=
 bc.byContradiction λag=>
  have J:=bc.epsilon_spec (l:=λt:aa=>t.Ok/\¬A8 t.av t.k t.aB) ⟨⟨l,k,q,j⟩,⟨V,af⟩,ag⟩
  J.2 (Y J.1)
noncomputable def cG:x:=t.aB.objs.aN
noncomputable abbrev aa.aq cq:Model:=model t.av t.k
noncomputable def aa.m cq:be:=KF t.top.w
end
mutual
section
open az.bb
set_option bp 100000
theorem aV.amO{l Y:ay}{a4:z b}{Xt:ad->G} a7{Yf:ad->α}{Ya:aA->α}{ak:x}{aZ:G}{ab:bM->aU}{aJ:Array GenState}{aY:Drawn}{a3 br aq:x}{ann:H L}
  (bv:∀k:aA,(fencedOpening U l k ak).an (λj=>(j.w,j.gens,j.drawn,j.toks))=i (ab k.K,aJ,aY,a3))
  (aN:∀k:aA,((ab k.K).a1 aC&&aJ.aN==0,(ab k.K).objs.aN,(ab k.K).aM aC "__annotations__")=(true,br,ann))
  (run:∀aj aQ,∃j,a6 U l k br ann aq ⟨ab k.K,aJ,aY,a3,N⟩ (b5 l)=i j/\(bz bH a_ j.w&&bs l j.w&&bj j&&bo a_ j.w)=true/\
   bu Y a4 bH Xt aZ j=bt Y a4/\Yf j=Ya k)
  (le:x.ble aq ak=true):aV l Y a4 Xt Yf Ya ak aZ:=λk=>by
 obtain ⟨⟨q,bk,E,af,N⟩,V,e'⟩:=H.b4.mp (bv k);clear bv;obtain ⟨rfl,rfl,rfl,rfl⟩:q=ab k.K/\bk=aJ/\E=aY/\af=a3:=by simpa using e'
 obtain ⟨z1,z2,rY⟩:_/\_/\_:=by simpa only [bf.mk.injEq] using aN k
 obtain ⟨j,aw,l1,l2,l3⟩:=run k N;have aw:=topRun_mono cr _ _ _ _ aw;rw[show aq+cr=ak by have:=x.le_of_ble_eq_true le;omega] at aw;have Z:bB U l k ak ⟨ab k.K,bk,E,af,N⟩=i j:=by unfold bB;dsimp only;rw[z1,z2,rY,aw];show (match bz bH a_ j.w&&bs l j.w&&bj j&&bo a_ j.w with|true=>_|false=>_)=_;rw[l1]
 unfold openEnds;rw[V];show (bB U l k ak _).an _=_;rw[Z];exact aI i (bf.ext l2 l3)
noncomputable def Cy:az.Pos:=⟨0,0,0,0⟩
noncomputable def JO:Env:={bx:=F.aL.bx,locals:=b3,bV:=b3,cells:=[],code:= .B 13,frame:=i 14}
noncomputable def bdy:z aW:=behindTheImports F
noncomputable abbrev w6:bd:= .aH bdy JO
noncomputable def agm:Obj:={au:= .A "code",al:= .bi #[.str "<module>" 182,.str "<module>" 183,.str "/claim/cut.py" 184,.M 1 0,.M 0 0,.M 0 0,.M 0 0,.M 0 0,.B 11,.aX false,.M 181 0,.B 12,.none,.none,.none,.none,.M 185 0,.M 1 0,.str "/claim/cut.py" 186]}
noncomputable def aiG:Obj:={au:= .A "frame",a5:= #[i (.B 13),i cs,i cs,none,i (.str "__main__" 164),none,i (.B 0)]}
noncomputable def amK(R:bM):z Obj:=[boot_o_0 R,boot_o_1 R,boot_o_2 R,boot_o_3 R,boot_o_4 R,boot_o_5 R,boot_o_6 R,boot_o_7 R,boot_o_8 R,boot_o_9 R,boot_o_10 R,{au:= .A "tuple",al:= .seq #[] 0},{au:= .none,al:= .bi #[]},agm,aiG]
noncomputable def R3:x->z Obj->BT->BT
 |_,[],Z=>Z
 |ag,o::aw,Z=>R3 (ag+1) aw (Z.ins ag o)
noncomputable def Eh aj aQ:bO:=⟨R3 0 (amK k.K) .nil,15,{},#[],{},187,N⟩
theorem aja aj aQ:topGo U F k 11 ax 12 ct cu=i ((Eh k N).ar,⟨denote U w6,w6,Cy,ba⟩):=aG
theorem ai_ aj aQ:segRun U F k 11 ax 1 1 (Eh k N).ar (blockOf bdy JO w6 Cy ba)=i (.next,(Eh k N).ar,w6,Cy):=aG
noncomputable def xW:ay:={F with aL:={F.aL with aH:=[a 84]}}
noncomputable def zU:z b:=F.boundNames.filter λag=> !j4 ag "law"
noncomputable def UH a7 aj(aS:ad->α) bG:=(cw,bu xW zU bI bJ true j,aS j)
noncomputable def fin{β:Type} aj(bL:ad->β):H (Flow×bO×bd×az.Pos)->H (bd×β)
 |i (.next,j,D,l)=>(a6 U F k 11 ax 2 j.ar cx).an λj=>(D,bL j)
 |_=>none
theorem ajb aj:(λN=>fin k (UH k ah) (aT.tw10110043849684766642 aT.tw14364793385576792824 F k 11 ax 1 4200 cy cz))=λC=>i (w6,true,bt xW zU,ao):=aG
abbrev u7:OpenLaw:=rw_sq0005_01
theorem n{y s:G}(q:y=true)(af:s=true):(y&&s)=true:=by rw[q,af];rfl
theorem aok:looksOpen F=true:=n (n (n (n (n p p) p) p) p) p
theorem aol:u7.aD.partSaid=true:=n (n (n (n (n (n (n (n (n (n (n (n (n aok p) p) p) p) p) p) p) p) p) p) p) p) p
theorem aom:u7.aD.b6=true:=n (n aol p) p
theorem said:u7.b6=true:=n (n (n (n (n (n (n (n (n (n (n (n (n (n (n (n (n (n aom p) p) p) p) p) p) p) p) p) p) p) p) p) p) p) p) p) p
theorem looks:(chainsOk xW&&opensWell u7.aD.av&&(frees u7.aD.toRowW&&u7.aD.within.isEmpty))=true:=aG
theorem aj2:u7.aD.av.bare:=⟨rfl,rfl,rfl,rfl,rfl,by decide+b1⟩
end
mutual
section
open az.bb
set_option bp 100000
theorem ajc aj aQ:∃j,a6 U F k 11 ax (12+(1+(4200+2))) ct cu=i j/\
  cw=true/\
  bu xW zU bI bJ true j=bt xW zU/\ah j=ao:=by
 have q:=congrFun (ajb k) N;rw[<-aT.te10110043849684766642,<-aT.te14364793385576792824] at q;cases a0:segRunT U F k 11 ax 1 4200 cy cz with
 |none=>rw[a0] at q;cases q
 |i J=>
  rw[a0] at q;obtain ⟨bU,bN,D,l⟩:=J;cases bU with
  |next=>obtain ⟨j,bX,aK⟩:=H.b4.mp (show (a6 U F k 11 ax 2 bN.ar cx).an (λj=>(D,UH k ah j))=_ from q);clear q;obtain rfl:D=w6:=aI bf.fst aK;refine ⟨j,go_top (aja k N) (piece_block (ai_ k N) ?_),aI (λJ=>J.2.1) aK,aI (λJ=>J.2.2.1) aK,aI (λJ=>J.2.2.2) aK⟩;have:=piece_app (rest:=[]) (segRun_of a0) (piece_nil bX);rwa [z.append_nil] at this
  |_=>cases q
noncomputable def ac8 ai:Prop:=∃j:ad,ah j=ao/\∀s o,j.w.I s=i o->q.I s=i o
noncomputable def bm:Hook:=⟨_,ah,λC=>ao,λC q=>ac8 q,λC j V=>⟨j,V,λC C V=>V⟩,λC C C ⟨j,V,af⟩ k'=>⟨j,V,λs o Y=>k' s o (af s o Y)⟩⟩
theorem hleft:aV F xW zU bJ bm.ah bm.ao 4300:=aV.amO (aZ:=true) (boot_open cF bK (λC=>rfl)) (λk=>aG) ajc bK
end
end
mutual
example _ bnd y0 y1 jD M x0 x1 ret x2 x3 y2 x4[by kernel_rfl]x5 jI y3 jN jW(f g i j:d)some u v j3 j0 j5 jY jT(f g:d)ku kB ζ jL(f:d)j8(f g i:d)kO r0 kP r1 kQ kh k_ w0[.al 1]list alloc lH kU y4[.al 0][A f X]Eq _ _ _ _ _ _ _ _ _ _ _ x kF ac guard items Option Not tup isinstance drop[.h (.a8 false)]int(f g i j l:d)glob(l:af d)(ρ:F)[λE=>stuck](nV C:d)[λE=>h .none]«at»[A f R]Add(f g i j l n:d)(l n r y D:af d)Bool len[T (.S [])][A g X]NotEq[A b c][[nV,C]][A g R][.a8 false][[w]][[b]](f:Nat)forL[A C X][.str vE](g i j:d)[.an 82][tb uq]Str Sub ofString[A f (.str vG)][.al (-1)][.str wJ][t aU]two unpackK[A i R][A i X][A f (.str wX)][.str yQ][tb A0][.an 64][tb Dp][lR [] (oY (jO 38)) 0]Mult bool[.str vB][tb yF][.al 2](w:d)[[f]][[c]]IsNot[.ah [(.str wK)]](l n r y D J U:af d)[.a8 true](n r:d)(i:af d)[A b R][.str uz][A f (.str Bo)][.an 104][.an 125][[k]](n r y D:d)[t f][tb Du][lR [] (oY (jO 61)) 0][A w X][[x,w]][A j R][A j X]«by»[.str uA](J U N V mh:d)[ab b nj][A C R](nU oE:d)[H .az aI][.str O5][A f ba](f g i j l n r:d)(tX:af d)(z8:af d)[m9 c]LtE Mod[.str Bm](x w:d)[q .Z b aM][tb Dy][.str tn][.str sr][.str Bp][.str uy][.ah [a2,c]][.str lJ][.str se][tb DE](J U N V mh o5:d)[[nU,oE]][tb DI][t r][t n][λv=>h (.h v)][[f,g]][H .az bd]List dict(TH:af d)[jO 61][.str wX][tb Dv][q .aC b c][q .Z b bN][.next (yI f g i j (t l))][A b X][.str yR][tb Dz][lR [] (oY (jO 73)) 0][.str wO][.str wM][.str wL][.str wN][.str uC][.str vD][tb DC][jO 84][lR [] (oY cq) 0][AF [j]](J U N V:d)[t aa](j l:d)[H .az [g]][H .az [j]](f g i j l n r y D:d)[ab n9 nj][[rX]][T (.S p)][m_ (L (jO 38)) 1][A c X][AD [Q]](qq:af d)[tb Ds][uo aI][T (.S y5)][.str vG]bn n(j:af d)[A x cJ][O .aR b R](x w rW:d)[D_ x w rW][jO 66](x w MB nE:d)[yI x w MB nE z8][t l][jO 68][lR [] (oY cV) 0](x o4 C w vc:d)(Ct qp:af d)[D9 x o4 C w vc Ct qp][jO 71][A i aU][lR [] (oY c0) 0](x o4 C:d)[[x,o4,C]](n r y:d)[jO 73][m9 j][jO 74][t R][.str uB][jO 75][.str Bo](x As Aq nE:d)(rL qq Ct:af d)[wF x As Aq nE rL qq Ct][.next (wF f g i j b3 b2 l)][jO 77][lR [] (oY dg) 0][jO 79][tb DG][.str wR][jO 83][lR [] (oY dl) 0][.al 4]«do»[.al 3][.str wQ][T (.S k)][A j dq][mG a_ b lJ][t N][t V][t mh](N V mh:d)[rZ [j,b,mh]](l n:af d)(J U N:d)[[t f,t g,t i,j]][[t f,t g,t i,t j,l]](qX P CW sP:d)[yL qX P CW sP](qX:d)[T (.S bc)][.a8 b][T (.S W)][ab f oJ][ab g oJ][jO 11][H .ai [f,bn]](nU oE CX nE VB:d)(amI amF amH TG:af d)[tg nU oE CX nE VB amI amF amH TG][t y][jO 12][lR [] (oY dR) 0][jO 32][λρ=>h (.cont ρ)](w sP sN:d)(TF z8 pQ:af d)[Be w sP sN TF z8 pQ](w sP sN ya n9:d)(pQ:af d)[IK w sP sN ya n9 pQ][ab sP nj](w sP sN ya n9 nM:d)[IL w sP sN ya n9 nM][jO 34](nM w Vy yb n9:d)[yK nM w Vy yb n9][lR [] (oY d4) 0][kY Iz h][jO 38][H .S aI][m_ (L cC) 1][ab b o8][[b,c]][tb Dq][jO 39][T (.S aI)][lR [] (oY ee) 0][A g aU][jO 56](nV C nL n9:d)(amG:af d)[Ef nV C nL n9 amG][jO 57](sO:d)[Bc nV C tX sO z8](sO n9:d)[yJ nV C tX sO n9][ab l nj][tb Dt][m9 i][jO 60][T (.S y6)][lR [] (oY eu) 0][A g cJ]d0[Ec x P Ar TH](x P Ar:d)[H .az bc][tb Dw][A x ca][L b_][m_ eE 3][m9 g][m_ eE 5][wm b5][.str wK][q .Z Q bN][vo f [g,b,c]][T (.S y7)][H .az [n]][lR [] (oY cR) 0][A g ca][A l R][A n R][A r R][A k X][m_ (L cV) 1][A c R][q .Z g bS][q .In g (.ah [bR,cg])][.next (Ba f g i j l dQ n b2)][A n b][m_ (L c0) 1](tX Lf:af d)(rW:d)(amE:af d)[Ba x rX w P tX Lf rW amE][[f,g,i]][H .az [i]][A c b][vp bv][q .Is K .none](Lf:af d)[Ed x w P nL Lf](n:af d)[m_ (L c6) 1][[f,i,b]][wo fd][m_ (L fc) 2][tb DA][wm [f,b]][ki b.ad (λc=>a bK λk=>ki k.ad (λp=>h [p]) k.ae) b.ae][q .In .none j][lR [] (oY c8) 0][q .Z g ck][tb DB][q .Z g bX][q .Z g c_][[t f,t g,t i,t j,t l,n]][lR [] (oY da) 0][.a8 c][mG cp f m6][Gw [b,i]][Yg f i b][A x db][pn b n l][AG [f,n,j]](r:b7 d)[T (.S r)][Gs b][ki c.ad (λk=>a (q .Is k l) λp=>(match p with|true=>h [R]|false=>h [])) c.ae][T (.b8 [(aM,aO),(a9,bo),(bT,bn)])][m_ (L dg) 1][A r X][tb DF][q .Z b eJ][Ea x nE qq][lR [] (oY di) 0][.str Ek][.al 6][qe [f,fK]][m_ (L dl) 1][[i,j,b]][qe [f,dp]][q3 [nc,Q]][Eb x o4 C Gr MC TH][L cq][Eb f g i j l none][kY Ia h][lQ a_ b lJ [mh]][t o5](N V:d)[match p with|true=>h ak|false=>ND f g i j l n r y D J U N V mh b][lS nD o8 Gq](aa qd nc x:d)(tZ t6 qp tY qq rL Cu pQ rM o_args tW tV:af d)[yH qd nc x tZ t6 qp tY qq rL Cu pQ rM o_args tW tV][t U][.next (wD g i j l br n r y D J f2 (t bl) du dv dw)][.str Bq][q .aC b fJ][H .ai [c,(.cK .str)]][m9 N][ki b.ad (λc=>a (ym [j,c]) λk=>h bp) b.ae][.next (wD g i j l br n r y D J f2 du dv dw fV)][[j,N,V]][Zh f g i j l n r y D J U](tZ t6 qp tY qq rL:af d)(Au:d)(pQ rM o_args tW tV:af d)[wD qd nc x tZ t6 qp tY qq rL Au pQ rM o_args tW tV](qd nc x:d)(j l n r y D J U N V mh:af d)[ab f sj][ab f tu][q .Is b c][ab f rm][ab f sq](nD:d)[ab nD uE](Lg:af d)[Bd P yc nL Lg][H .az [P]][kY Iw h][ab i nj](n r:af d)(r:d)[.cK .a8][.cK .al][H .ai [w,aO]][k9 38 uf [(.str (aQ.aS "circular-list")),b]][yw bc][sW [g]][tb DH][ab f o8][ab g o8][q .Z b c][tb Dm][aQ.aS "same_as"][.an 181][.an 146](rM:af d)[A_ nU oE rM][lR [] (oY dL) 0][t D][.cont (tg f g i j n b2 dQ gM l)][ab r uD][mG aP j m6](f g i j l n r y:d)[m_ (L dR) 3][tb Dn][lR [] (oY dT) 0][λρ=>lD a5 a6 ((L cC).aj 2) ρ (λρ=>h (.next ρ)) b4 dU][m_ (L d4) 2](rX:d)[.str (aQ.aS "sequencep")][H .ai [w,bo]][T (.S b5)][[t f,t g,i]][H .az bp][ab b oJ][NQ f c][H .ai [b,bo]][L ea][m_ g5 1][q .Lt c X][m_ g5 3][ab j o8][vq aI][H .ai [b,bn]][H .ai [Q,bo]][AW aI][m_ (L ee) 4](Lg qp:af d)[Bb nV C nL nM Lg qp][tb Dr][kY Il h][Eg nV C nL qq][lR [] (oY ei) 0][uo [w1]][lR [] (oY em) 0][match W with|true=>h aI|false=>h []][m_ (L eu) 4]:True:=x
mutual
section
set_option maxRecDepth 100000
noncomputable def Bd I cM:F:=dB
noncomputable def yL s:F:=[t f,t g,t i,t j]
noncomputable def A_ B bj:F:=g0
noncomputable def tg am(n r y D:af d):F:=[t f,t g,t i,t j,t l,n,r,y,D]
noncomputable def Be I(j l n:af d):F:=[t f,t g,t i,j,l,n]
noncomputable def IK am fb:F:=fp
noncomputable def IL aw:F:=[t f,t g,t i,t j,t l,t n]
noncomputable def yK am:F:=[t f,t g,t i,t j,t l]
noncomputable def Bb s dz:F:=[t f,t g,t i,t j,l,n]
noncomputable def Eg I cM:F:=dB
noncomputable def Ef s ao:F:=dC
noncomputable def Bc B bj(j:d) ao:F:=[t f,t g,i,t j,l]
noncomputable def yJ B bj cv:F:=[t f,t g,i,t j,t l]
noncomputable def Ec I cM:F:=dB
noncomputable def D_ I:F:=[t f,t g,t i]
noncomputable def yI s ao:F:=dC
noncomputable def D9 am gt:F:=[t f,t g,t i,t j,t l,n,r]
noncomputable def Ba s dz gu(y:af d):F:=[t f,t g,t i,t j,l,n,t r,y]
noncomputable def Ed s ao:F:=dC
noncomputable def wF s(l n r:af d):F:=[t f,t g,t i,t j,l,n,r]
noncomputable def Ea B bj:F:=g0
noncomputable def Eb am fb:F:=fp
noncomputable def yH I(j l n r y D J U N V mh o5:af d):F:=[t f,t g,t i,j,l,n,r,y,D,J,U,N,V,mh,o5]
noncomputable def wD I(j l n r y D:af d)(J:d)(U N V mh o5:af d):F:=[t f,t g,t i,j,l,n,r,y,D,t J,U,N,V,mh,o5]
noncomputable def D3:d->F->e o:=sC gB gL (m_ (L dL) 1)
noncomputable def D4:F->e ay:=qZ b1 dS gR
noncomputable def ID:F->e o:=qY b1 dS gR
noncomputable def wA:d->F->e o:=sC gS gT (m_ (L dT) 0)
noncomputable def A3:F->e ay:=qZ aP d7 gV
noncomputable def A2:F->e o:=qY aP d7 gV
noncomputable def A7:F->e ay:=qZ a5 a6 cC
noncomputable def OI:F->e ay:=qZ a5 a6 g6
noncomputable def OH:F->e o:=qY a5 a6 g6
noncomputable def OM:F->e ay:=qZ a5 a6 g8
noncomputable def OL:F->e o:=qY a5 a6 g8
noncomputable def IB:F->e o:=qY a5 a6 cC
noncomputable def wB:F->e ay:=qZ ed eg hd
noncomputable def A6:F->e o:=qY ed eg hd
noncomputable def DW:d->F->e o:=sC hg hj (m_ (L ei) 1)
noncomputable def Iv:d->F->e o:=sC cG hl (m_ (L em) 1)
noncomputable def Ir:F->e ay:=qZ es ew hn
noncomputable def Iq:F->e o:=qY es ew hn
noncomputable def DX:F->e ay:=qZ bs bt eF
noncomputable def Im:F->e o:=qY bs bt eF
noncomputable def DZ:F->e ay:=qZ bs bt eH
noncomputable def Io:F->e o:=qY bs bt eH
noncomputable def Ig:d->F->e o:=sC cb eO (m_ (L cR) 0)
noncomputable def H8:F->e ay:=qZ bQ cW eU
noncomputable def H7:F->e o:=qY bQ cW eU
noncomputable def DV:F->e ay:=qZ a3 c2 e0
noncomputable def Ih:F->e o:=qY a3 c2 e0
noncomputable def HY:F->e ay:=qZ ch ci ff
noncomputable def HX:F->e o:=qY ch ci ff
noncomputable def DU:d->F->e o:=sC fg fk (m_ (L c8) 4)
noncomputable def Ik:d->F->e o:=sC fm fq (m_ (L da) 4)
noncomputable def DT:F->e ay:=qZ bY dh fD
noncomputable def Ib:F->e o:=qY bY dh fD
noncomputable def H_:d->F->e o:=sC fF fI (m_ (L di) 1)
noncomputable def DS:d->F->e o:=sC dj dm (m_ (L fM) 2)
noncomputable def DP:d->F->e o:=sC a_ cr (m_ fR 2)
noncomputable def DQ:d->F->e o:=sC a_ cr (m_ fR 6)
theorem aav(nD Vu Vv:d):yj [nD,Vu,Vv]=a (lS nD p6 Vu) λE=>a (lS nD nj Vv) λE=>h .none:=m
theorem GO(nD Gq VA:d):ug [nD,Gq,VA]=a fY λE=>a (lS nD sf VA) λE=>h .none:=m
theorem aaz(nD Gq:d):ug [nD,Gq]=a fY λE=>a (lS nD sf .none) λE=>h .none:=m
theorem aaA(nD P:d):sU [nD,P]=a (lS nD oJ P) λE=>h .none:=m
noncomputable def V0 I:e d:=a (lS f uE X) λE=>a (lS f sq g) λE=>a (lS f tu i) λE=>h .none
theorem aaw(nD yb MD Vw:d):vm [nD,yb,MD,Vw]=a (lS nD rm yb) λE=>a (lS nD sj MD) λE=>a (lS nD uD Vw) λE=>V0 nD yb MD:=m
noncomputable def B1 G:e d:=a gh λb=>a gi λc=>a gj λk=>h (.a8 k)
noncomputable def B2 G:e d:=a gk λb=>a gl λc=>a gj λk=>(match k with|true=>B1 f|false=>h aG)
theorem aay gm:C9 [nD]=a gn λMh=>a (q .Gt Mh X) λkE=>(match kE with|true=>B2 nD|false=>h aG):=m
noncomputable def YX G:e d:=a (ab f uE) λb=>a (O .av b R) λc=>a (lS f uE c) λE=>h .none
noncomputable def ZE G:e d:=a gh λb=>a bB λc=>a (lS f sj c) λE=>YX f
noncomputable def C5 G:e d:=a gk λb=>a bB λc=>a (lS f rm c) λE=>ZE f
noncomputable def ZV G:e d:=a gi λb=>a bB λc=>a (lS f tu c) λE=>C5 f
noncomputable def NN G:e d:=a gl λb=>a bB λc=>a (lS f sq c) λE=>ZV f
theorem aax gm:C8 [nD]=a gn λMh=>a (O .bM Mh ba) λM=>a (q .Z M R) λkJ=>(match kJ with|true=>NN nD|false=>C5 nD):=m
noncomputable def Iw ap:e d:=lD gB gL ((L dL).aj 2) ρ as h aq
theorem abW(aa P yc nL:d) go:D3 aa gp=a (A P aa) λQ=>a (k9 82 yj [Q,nL]) λM=>h (.next (Bd P yc M cu)):=m
theorem abV(P yc nL:d) go:Iw gp=h nL:=m
theorem N1(P yc:d):sX [P,yc]=a gq λr2=>a (O .aR r2 R) λr3=>a (rO [r3,aU,aU]) λCb=>a (aK Cb.ad D3 Cb.ae (Bd P yc yc none)) gr:=m
theorem aba(P:d):sX [P]=a gq λLK=>a (O .aR LK R) λanG=>a (rO [anG,aU,aU]) λSm=>a (aK Sm.ad D3 Sm.ae (Bd P a4 a4 none)) gr:=m
noncomputable def IE ap:e d:=lD b1 dS ((L dR).aj 4) ρ as h aq
theorem ab0 dD:D4 dE=a (H .ai [CW,aO]) λM=>z M λkJ=>h kJ:=m
noncomputable def Z_ s:e o:=a gs λb=>a (q .Is j b) λc=>(match c with|true=>h (.h (.ah [g,.none]))|false=>h (.next (yL f g j b)))
noncomputable def aaj am:e o:=a (q .Z l X) λb=>(match b with|true=>Z_ f g i j|false=>h (.next (yL f g j i)))
noncomputable def V1 s:e o:=a gs λb=>a cw λc=>a (O .bM c ba) (aaj f g j b)
theorem abZ dD:ID dE=a (mG b1 P lJ) λE=>a (ab CW p6) λafN=>a (lQ b1 P lJ [afN]) λE=>V1 qX P CW sP:=m
theorem ab1 dD:IE dE=h (.ah [P,CW]):=m
theorem abg dF:AY [qX]=a aA λnY=>a (lG D4 ID (yL qX nY qX qX)) (kY IE h):=m
noncomputable def Wa G:e d:=a (H .ai [f,gv]) λb=>k6 .ag b λc=>h c
theorem aaK dF:sW [qX]=a (H .ai [qX,gw]) λK=>z K λkE=>(match kE with|true=>Wa qX|false=>h aG):=m
noncomputable def Wi G:e d:=a (H .ai [f,aO]) λb=>h b
theorem aaJ dF:yk [qX]=a (q .Is qX a4) λq0=>(match q0 with|true=>h bh|false=>Wi qX):=m
theorem abi(Vx w:d):q4 [Vx,w]=a (T (.S [Vx,w])) λnY=>a (k9 38 uf [aV,nY]) λM=>h M:=m
noncomputable def MW G:e d:=a (q4 [(.str (aQ.aS "listp")),f]) λb=>oN b
theorem N4 bb:yw aH=a (yk aH) λK=>k6 .ag K λM=>z M λkJ=>(match kJ with|true=>MW w|false=>h w):=m
noncomputable def WA G:e d:=a (q4 [(.str (aQ.aS "consp")),f]) λb=>oN b
theorem N3 bb:Dg aH=a gx λK=>k6 .ag K λM=>z M λkJ=>(match kJ with|true=>WA w|false=>h w):=m
noncomputable def WL G:e d:=a (q4 [(.str (aQ.aS "integerp")),f]) λb=>oN b
theorem abd bb:yy aH=a (sW aH) λK=>k6 .ag K λM=>z M λkJ=>(match kJ with|true=>WL w|false=>h w):=m
noncomputable def WU:e d:=a aA λb=>a (k9 38 uf [(.str (aQ.aS "overflow-error")),b]) λc=>oN c
theorem abb(nM:d):AW [nM]=a (q .Gt nM (.al 1048576)) λq0=>(match q0 with|true=>WU|false=>h nM):=m
noncomputable def W3 G:e d:=a (q4 [(.str (aQ.aS "wholenump")),f]) λb=>oN b
noncomputable def Xc G:e d:=a (AW bc) λb=>h b
theorem N5 bb:GX aH=a (yy aH) λK=>a (q .Lt K X) λkE=>(match kE with|true=>W3 w|false=>Xc w):=m
noncomputable def Xm G:e d:=a dG λb=>a gy λc=>oN c
noncomputable def Xw B:e d:=a (q .be g a4) λb=>(match b with|true=>MW g|false=>h f)
theorem abh bb:Dj aH=a (yw aH) λK=>a (AY aH) λM=>aY M λl2=>aX l2 λu3 u4=>a (q .Is u4 .none) λq5=>(match q5 with|true=>Xm w|false=>Xw u3 u4):=m
noncomputable def XF G:e d:=a gz λb=>a bB λc=>h c
noncomputable def XJ G:e d:=a gz λb=>h b
theorem NT bb:Dc aH=a gx λK=>z K λkE=>(match kE with|true=>XF w|false=>XJ w):=m
theorem aa2 ar:AK aE=a aL λQ=>a bC λw1=>a (k9 82 yj [Q,w1]) λr2=>h r2:=m
noncomputable def XO I:e d:=a (lS i nj g) λE=>a au λb=>h b
theorem NZ ar:AS aE=a bC λQ=>a aL λw1=>a (Dg [w1]) (XO C Q):=m
noncomputable def XZ B:e d:=a (q .Z f g) λb=>h dH
noncomputable def Yd B:e d:=a gA λb=>z b λc=>(match c with|true=>XZ f g|false=>h aG)
noncomputable def Nq B:e d:=a (sW bc) λb=>z b λc=>(match c with|true=>Yd f g|false=>h aG)
noncomputable def Yy B:e d:=a (q .Is f g) λb=>h dH
noncomputable def YH B:e d:=a gA λb=>z b λc=>(match c with|true=>Nq f g|false=>Yy f g)
theorem aaE bD:Dd b0=a (sW [nU]) λK=>z K λkE=>(match kE with|true=>Nq nU oE|false=>YH nU oE):=m
noncomputable def YO(f:It):e d:=a (ki f.ad (λb=>aY b λc=>aX c λk p=>h [(.ah [k,p])]) f.ae) λW=>a dI λy5=>h y5
noncomputable def YY B:e d:=a dJ λb=>lY b none none aW λc=>a dK λk=>lY k none none aW λp=>a (yf [c,p]) YO
noncomputable def Y_ s:e d:=a cx λb=>a (q .aC i b) λc=>(match c with|true=>h .none|false=>YY f g)
noncomputable def Zk B:e d:=a dJ λb=>a bE λc=>a dK (Y_ f g c)
noncomputable def NG:e d:=a aA λb=>h b
noncomputable def Zy B:e d:=a gC λb=>a gD λc=>a gE λk=>(match k with|true=>NG|false=>h .none)
noncomputable def Zz B:e d:=a (mG gF f gG) λE=>a (lQ gF f gG [g]) λb=>z b λc=>(match c with|true=>NG|false=>h .none)
noncomputable def ZA B:e d:=a (H .ai [f,gH]) λb=>z b λc=>(match c with|true=>Zz f g|false=>h .none)
noncomputable def ZC B:e d:=a dM λb=>z b λc=>(match c with|true=>Zy f g|false=>ZA f g)
theorem N6 bD:Dh b0=a (H .ai [nU,(.ah [bo,gI])]) λK=>z K λkE=>(match kE with|true=>Zk nU oE|false=>ZC nU oE):=m
noncomputable def Ot ap:e d:=lD gS gT ((L dT).aj 1) ρ as h aq
noncomputable def ZD B:e o:=a (H .ai [g,f]) λb=>h (.h b)
theorem Ou(aa nU oE:d) gJ:wA aa gK=a (H .ai [nU,aa]) λK=>z K λkE=>(match kE with|true=>ZD aa oE|false=>h (.next (A_ nU oE cu))):=m
theorem abp bD gJ:Ot gK=h aG:=m
theorem aaD bD:C_ b0=a (m9 (.ah [aO,bo,gI,bn,gH])) λSj=>a (aK Sj.ad wA Sj.ae (A_ nU oE none)) (kY Ot h):=m
noncomputable def DO ap:e d:=lD aP d7 ((L d4).aj 3) ρ as h aq
theorem Ov dN dO:A3 dP=a (H .az [nE]) λr2=>a (q .Gt r2 X) λnB=>h nB:=m
noncomputable def NH G:e o:=a dG λb=>a gy λc=>oN c
noncomputable def ZF:e o:=a (T (.S [(.str (aQ.aS "Stack overflow in equal"))])) λb=>a (k9 38 uf [(.str (aQ.aS "error")),b]) λc=>oN c
noncomputable def ZG s ao(n r y D J U N:d):e o:=a (O .av N R) λb=>a (k9 334 vm [J,U,b]) λc=>a (T (.S [r,c])) λk=>a (lQ aP j m6 bp) λp=>h gN
noncomputable def ZH s ao bq:e o:=a (ab y p6) λb=>a (ab D p6) λc=>a gO (ZG f g i j l n r y D b c)
noncomputable def NI s ao bq:e o:=a (mG aP r wV) λE=>a (lQ aP r wV []) λb=>a gP λE=>ZH f g i j l n r y D
noncomputable def ZI cy(J:b7 d):e o:=a (T (.S J)) λb=>a (lQ aP j m6 aI) λc=>h (.next (tg f g i j l b3 b2 dQ gM))
noncomputable def GF cy:e o:=a gP λE=>a (m9 D) λb=>a (ki b.ad (λc=>aY c λk=>aX k λp W=>a (ab n uD) λy5=>a (O .av y5 R) λy6=>a (k9 334 vm [p,W,y6]) λy7=>h [y7]) b.ae) (ZI f g i j l n r y D)
noncomputable def ZJ cy:e o:=a (tE aP i [r,y]) λb=>k6 .ag b λc=>z c λk=>(match k with|true=>h ak|false=>GF f g i j l n r y D)
noncomputable def ZK cy:e o:=a (H .ai [r,bn]) λb=>z b λc=>(match c with|true=>ZJ f g i j l n r y D|false=>GF f g i j l n r y D)
noncomputable def GG gQ:e o:=a (Dh [r,y]) λb=>a (q .Is b .none) λc=>(match c with|true=>h ak|false=>ZK f g i j l n r y b)
noncomputable def NJ s ao bq:e o:=a (H .ai [y,aO]) λb=>z b λc=>(match c with|true=>NI f g i j l n r y D|false=>GG f g i j n r y D)
noncomputable def ZL s ao bq:e o:=a (C_ [y,D]) λb=>k6 .ag b λc=>z c λk=>(match k with|true=>h ak|false=>NJ f g i j l n r y D)
noncomputable def ZM s ao bq:e o:=a (Dd [y,D]) λb=>z b λc=>(match c with|true=>h gN|false=>ZL f g i j l n r y D)
noncomputable def ZN s ao bq:e o:=a gO λb=>a (q .Gt b (.al 200)) λc=>(match c with|true=>ZF|false=>ZM f g i j l n r y D)
noncomputable def ZO s ao bq:e o:=a (mG aP r wU) λE=>a (lQ aP r wU []) λb=>z b λc=>(match c with|true=>NH f|false=>ZN f g i j l n r y D)
noncomputable def ZP s ao bi:e o:=a (ab r rm) λb=>a (ab r sj) λc=>a (q .Gt n (.al 8388608)) λk=>(match k with|true=>NH f|false=>ZO f g i j l n r b c)
theorem abq dN dO:A2 dP=a (O .av VB R) λu6=>a (mG aP nE pB) λE=>a (lQ aP nE pB []) (ZP nU oE CX nE TG u6):=m
theorem abr dN dO:DO dP=h bh:=m
theorem aaF(nU oE CX:d):De [nU,oE,CX]=a (k9 334 vm [nU,oE,X]) λK=>a (T (.S [K])) λl1=>a (lG A3 A2 (tg nU oE CX l1 X none none none none)) (kY DO h):=m
theorem aaC bD:GP b0=h bh:=m
theorem aaG bD:sV b0=a (De [nU,oE,(.an 350)]) λK=>h K:=m
noncomputable def OJ ap:e o:=lD a5 a6 ((L ea).aj 2) ρ gU b4 dU
noncomputable def ON ap:e o:=lD a5 a6 ((L ea).aj 4) ρ gU b4 dU
noncomputable def IC ap:e d:=lD a5 a6 ((L d9).aj 2) ρ as h aq
noncomputable def ZQ G:e ay:=a (ab f nj) λb=>a (H .ai [b,aO]) λc=>z c λk=>h k
theorem OG dV dW:A7 dX=a (H .ai [sN,aO]) λK=>z K λkE=>(match kE with|true=>ZQ sN|false=>h false):=m
theorem ar7 dY dZ:OI d0=a (q .be n9 sP) λanA=>h anA:=m
theorem ar6 dY dZ:OH d0=a cz λafW=>a d1 λafX=>a (O .av ya R) λsJ=>h (.next (IK w afX sN sJ afW pQ)):=m
theorem ar_ d2:OM d3=a (q .be sP n9) λanq=>h anq:=m
theorem ar9 d2:OL d3=a d1 λafZ=>a (O .av nM R) λanB=>h (.next (IL w afZ sN ya n9 anB)):=m
theorem asa d2:ON d3=h (.h (.ah [ya,nM])):=m
theorem ar8 dY dZ:OJ d0=a cz λafY=>a (lG OM OL (IL w afY sN ya n9 R)) (kY ON b4):=m
theorem abX dV dW:IB dX=a d1 λJy=>a (ab sN nj) λaf2=>a (ab af2 nj) λJz=>a (q .Is Jy Jz) λLD=>(match LD with|true=>a (lG OI OH (IK w Jy Jz X w pQ)) (kY OJ b4)|false=>h (.next (Be w Jy Jz TF z8 pQ))):=m
theorem abY dV dW:IC dX=h .none:=m
theorem abf bb:AX aH=a (lG A7 IB (Be w w w none none none)) (kY IC h):=m
noncomputable def Iz ap:e d:=lD ed eg ((L ee).aj 5) ρ as h aq
noncomputable def ZR G:e ay:=a (q .be f a4) λb=>h b
theorem OF d5:wB d6=a (q .Gt yb X) λano=>(match ano with|true=>ZR n9|false=>h false):=m
theorem OE d5:A6 d6=a (Dc [n9]) λsJ=>a (O .aR yb R) λCB=>h (.next (yK nM w Vy CB sJ)):=m
theorem IA d5:Iz d6=h n9:=m
noncomputable def ZS am:e d:=a aZ λb=>a (O .bM l b) λc=>a (O .av j c) λk=>a (lG wB A6 (yK f g i k g)) d8
noncomputable def ZT I:e d:=a a0 λb=>a a0 λc=>a (O .aR f c) (ZS f g i b)
noncomputable def ZU I:e d:=a a0 λb=>a (q .Gt f b) λc=>(match c with|true=>ZT f g i|false=>a (lG wB A6 (yK f g i f g)) d8)
theorem abe(nM w:d):Di [nM,w]=a (AX aH) λK=>a (q .be K .none) λkE=>(match kE with|true=>ZU nM w K|false=>a (lG wB A6 (yK nM w K nM w)) d8):=m
noncomputable def ZW G:e d:=a (q .bL f (.al 4194303)) λb=>h dH
noncomputable def NK G:e d:=a (q .bL X f) λb=>(match b with|true=>ZW f|false=>h aG)
theorem aaI gW:Df cA=a (sW cA) λK=>z K λkE=>(match kE with|true=>NK rX|false=>h aG):=m
noncomputable def ZX G:e d:=a (q4 [(.str (aQ.aS "characterp")),f]) λb=>oN b
theorem N2 gW:vq cA=a (Df cA) λK=>k6 .ag K λM=>z M λkJ=>(match kJ with|true=>ZX rX|false=>h rX):=m
theorem aaH bb:AD aH=a (H .ai [w,(.ah [bo,bn])]) λK=>h K:=m
noncomputable def ZY G:e d:=a dJ λb=>a d_ λc=>h c
noncomputable def ZZ G:e d:=a gC λb=>a d_ λc=>h c
noncomputable def Z0 G:e d:=a (q4 [gX,f]) λb=>oN b
noncomputable def Z1 G:e d:=a (Dj bc) λb=>h b
noncomputable def Z2 G:e d:=a (yk bc) λb=>k6 .ag b λc=>z c λk=>(match k with|true=>Z0 f|false=>Z1 f)
noncomputable def Z3 G:e d:=a dM λb=>z b λc=>(match c with|true=>ZZ f|false=>Z2 f)
theorem N7 bb:uo aH=a gY λK=>z K λkE=>(match kE with|true=>ZY w|false=>Z3 w):=m
noncomputable def NL G:e d:=a (k9 125 sU bc) λb=>h b
noncomputable def Z4 G:e d:=a (m9 f) λb=>a (ki b.ad (λc=>a (vq bd) λk=>h bp) b.ae) λp=>a cB λW=>a (k9 104 ug [W]) λy5=>h y5
noncomputable def Z5 G:e d:=a (sX bc) λb=>h b
noncomputable def NO B:e d:=a dM λb=>z b λc=>(match c with|true=>Z4 g|false=>Z5 g)
theorem aaB(w P:d):wh [w,P]=a gY λK=>z K λkE=>(match kE with|true=>NL P|false=>NO w P):=m
noncomputable def NP B:e d:=a gZ λb=>a (k9 38 uf [bF,b]) λc=>oN c
noncomputable def Z6 s:e d:=a (q .Lt j i) λb=>(match (!b) with|true=>NP f g|false=>h g)
theorem abc(w vc nM:d):yx [w,vc,nM]=a (yy [vc]) λK=>a (q .bL X K) λkE=>(match kE with|true=>Z6 w vc nM K|false=>NP w vc):=m
theorem aa4 ar:AO aE=a aL λQ=>a (uo [Q]) λM=>a (H .az [M]) λr2=>h r2:=m
noncomputable def Z7 G:e d:=a Y λb=>a (AY aI) λc=>a cD λk=>a g1 λp=>h p
theorem aa8 ar:yv aE=a aL λQ=>a (H .ai [Q,aO]) λM=>z M λkJ=>(match kJ with|true=>Z7 C|false=>h X):=m
noncomputable def C6 G:e d:=a Y λb=>a (q4 [(.str (aQ.aS "arrayp")),b]) λc=>oN c
noncomputable def NQ I:e d:=a au λb=>a cw λc=>a (yx [i,b,c]) λk=>a (A g k) λp=>h p
noncomputable def Z8 G:e d:=a Y λb=>a g2 λc=>a Y g3
noncomputable def Z9 G:e d:=a Y λb=>a eb λc=>a Y g3
noncomputable def aaa G:e d:=a Y λb=>a g4 λc=>z c λk=>(match k with|true=>Z8 f|false=>Z9 f)
theorem NW ar:yr aE=a aL λQ=>a cE λM=>k6 .ag M λr2=>z r2 λnB=>(match nB with|true=>C6 C|false=>aaa C):=m
noncomputable def aab B:e d:=a (yr b5) λb=>h b
noncomputable def aac G:e d:=a Y λb=>a (q4 [gX,b]) λc=>oN c
noncomputable def GH G:e d:=a Y λb=>a au λc=>a (T (.S ec)) λk=>a (k9 38 uf [bF,k]) λp=>oN p
noncomputable def aad G:e d:=a (ab f p6) λb=>h b
noncomputable def aae B:e d:=a (H .ai [g,aO]) λb=>k6 .ag b λc=>z c λk=>(match k with|true=>GH f|false=>aad g)
noncomputable def aaf I:e d:=a (Di [g,i]) λb=>a au λc=>a g7 λk=>(match k with|true=>GH f|false=>aae f b)
noncomputable def aag G:e d:=a au λb=>a (yy aI) λc=>a Y (aaf f c)
noncomputable def aah G:e d:=a Y λb=>a (yk aI) λc=>k6 .ag c λk=>z k λp=>(match p with|true=>aac f|false=>aag f)
theorem GV ar:yt aE=a aL λQ=>a cE λM=>z M λkJ=>(match kJ with|true=>aab nV C|false=>aah C):=m
noncomputable def aai s:e d:=a (pn i j g) λE=>a bG λb=>h b
noncomputable def aak aw:e d:=a (ab n oJ) λb=>a bE λc=>a (yx [j,l,c]) (aai f g i)
noncomputable def aal I:e d:=a Y λb=>a au λc=>a Y (aak f g i b c)
noncomputable def aam G:e d:=a bG λb=>a Y λc=>a (ab c oJ) (aal f b)
noncomputable def aan s:e d:=a g9 λb=>a (pn b g i) λE=>a bG λc=>h c
noncomputable def aao B:e d:=a bG λb=>a g_ λc=>a Y (aan f g c)
noncomputable def aap s:e d:=a g9 λb=>a bE λc=>a (yx [g,i,c]) (aao f)
noncomputable def aaq G:e d:=a Y λb=>a au λc=>a Y (aap f b c)
noncomputable def aar G:e d:=a Y λb=>a g4 λc=>z c λk=>(match k with|true=>aam f|false=>aaq f)
theorem NX ar:AJ aE=a aL λQ=>a cE λM=>k6 .ag M λr2=>z r2 λnB=>(match nB with|true=>C6 C|false=>aar C):=m
noncomputable def aas B:e d:=a Y λb=>a (lS b oJ g) λE=>a Y λc=>h c
noncomputable def aat I:e d:=a (ab i oJ) λb=>a bE λc=>a (O .a7 g c) (aas f)
noncomputable def V2 G:e d:=a au λb=>a ef λc=>a Y (aat f c)
noncomputable def V3 I:e d:=a (O .a7 g i) λb=>a Y λc=>a (lS c o8 b) λE=>a Y λk=>h k
noncomputable def V4 B:e d:=a Y λb=>a eb λc=>a b6 (V3 f g)
noncomputable def V5 G:e d:=a au λb=>a g_ λc=>a (T (.S bd)) (V4 f)
noncomputable def V6 G:e d:=a Y λb=>a ha λc=>z c λk=>(match k with|true=>V5 f|false=>C6 f)
theorem NY ar:AN aE=a aL λQ=>a hb λM=>z M λkJ=>(match kJ with|true=>V2 C|false=>V6 C):=m
theorem aa_ ar:AV aE=a (H .S [C]) λnY=>a (k9 125 sU [nY]) λM=>h M:=m
noncomputable def MQ B:e d:=a (GX [g]) λb=>a (O .a7 f b) λc=>a (k9 125 sU bd) λk=>h k
theorem aa5 ar:AP aE=a bC λQ=>a (T (.S [Q])) λl1=>a aL (MQ l1):=m
noncomputable def Il ap:e d:=lD hg hj ((L ei).aj 2) ρ as h aq
noncomputable def V7 bH:e o:=a (O .av l r) λb=>a hc λc=>a (sX [n,j]) λk=>h (.next (Bb g i k c br b3))
theorem abO(aa nV C nL nM:d) he:DW aa hf=a (A C aa) λw3=>a (uo [w3]) λu6=>a (H .az [u6]) (V7 aa nV C nL nM u6):=m
theorem abN(nV C nL nM:d) he:Il hf=h nL:=m
noncomputable def V8 B:e d:=a eh λb=>a cw λc=>a (O .aR c ba) λk=>a (rO [k,aU,aU]) λp=>a (aK p.ad DW p.ae (Bb f g b X none none)) hh
noncomputable def V9 B:e d:=a cw λb=>a (O .aR b ba) λc=>a (rO [c,aU,aU]) λk=>a (aK k.ad DW k.ae (Bb f g a4 X none none)) hh
theorem aa1 ar:AI aE=a (H .az [C]) λK=>a (q .Gt K X) λkE=>(match kE with|true=>V8 nV C|false=>V9 nV C):=m
noncomputable def D0 ap:e d:=lD cG hl ((L em).aj 2) ρ as h aq
noncomputable def V_ s:e o:=a cx λb=>a hc λc=>h (.next (Eg g i j br))
theorem abU(aa nV C nL:d) cF:Iv aa hi=a (mG cG nL m6) λE=>a (uo [aa]) λM=>a (lQ cG nL m6 [M]) λE=>V_ aa nV C nL:=m
theorem abT(nV C nL:d) cF:D0 hi=a (k9 125 sU [nL]) λCC=>h CC:=m
theorem aa9 ar:AU aE=a aA λnY=>a (m9 C) λSk=>a (aK Sk.ad Iv Sk.ae (Eg nV C nY none)) (kY D0 h):=m
noncomputable def Wb B:e d:=a Y λb=>a (ab b sf) λc=>a (k9 104 ug [g,c]) λk=>h k
noncomputable def MR G:e d:=a Y λb=>a eb λc=>a (H .S bd) (Wb f)
noncomputable def MS G:e d:=a Y λb=>a Y λc=>a (uo bd) λk=>a (wh [b,k]) λp=>h p
theorem aa3 ar:AL aE=a aL λQ=>a (H .ai [Q,bn]) λM=>z M λkJ=>(match kJ with|true=>MR C|false=>MS C):=m
theorem aa7 ar:yu aE=a aL λQ=>a aL λw1=>a hk λr2=>lY r2 none none aW λl3=>a (wh [Q,l3]) λu6=>h u6:=m
noncomputable def Iu ap:e d:=lD es ew ((L eu).aj 5) ρ as h aq
theorem OD ej ek:Ir el=a (q .be n9 a4) λanr=>h anr:=m
theorem abR ej ek:Iq el=a cz λPW=>a (lS n9 nj nL) λE=>h (.next (Ef nV C n9 PW (t PW))):=m
theorem abS ej ek:Iu el=h nL:=m
noncomputable def Wc I:e d:=a (lS i oJ g) λE=>a Y λb=>h b
noncomputable def Wd G:e d:=a Y λb=>a g2 λc=>lY c none none aW λk=>a Y (Wc f k)
noncomputable def We B:e d:=a (yu b5) λb=>h b
noncomputable def MT B:e d:=a aB λb=>a cH λc=>a aB λk=>a (lG Ir Iq (Ef f g a4 k none)) (kY Iu h)
noncomputable def Wf B:e d:=a aB λb=>a ha λc=>z c λk=>(match k with|true=>We f g|false=>MT f g)
theorem GW ar:AQ aE=a aL λQ=>a hb λM=>z M λkJ=>(match kJ with|true=>Wd C|false=>Wf nV C):=m
noncomputable def DY ap:e d:=lD bs bt ((L b_).aj 4) ρ as h aq
noncomputable def Ip ap:e d:=lD bs bt ((L b_).aj 6) ρ as h aq
noncomputable def Wg B:e ay:=a Y λb=>a (ab g p6) λc=>a (sV ec) λk=>z k λp=>h p
theorem Oz ar bI en bJ:DX eo=a (H .ai [sO,aO]) λanD=>z anD λant=>(match ant with|true=>Wg C sO|false=>h false):=m
theorem abP ar bI en bJ:Im eo=a (ab sO nj) λaf0=>h (.next (Bc nV C tX af0 z8)):=m
theorem OB ar bI ep:DZ eq=a (H .ai [n9,aO]) λLI=>z LI λanv=>h anv:=m
noncomputable def Wh B bj cv:e o:=a er λb=>a bB λc=>a (lS l nj c) λE=>h (.next (yJ f g i j l))
noncomputable def MU B bj cv:e o:=a er λb=>h (.next (yJ f g i j b))
noncomputable def Wj B bj(j l n r:d):e o:=a (sV [n,r]) λb=>z b λc=>(match c with|true=>Wh f g i j l|false=>MU f g i j l)
noncomputable def Wk B bj cv:e o:=a aB λb=>a er λc=>a (ab c p6) (Wj f g i j l b)
theorem OA ar bI ep:Io eq=a cz λaf1=>a (H .ai [af1,aO]) λanF=>z anF λanx=>(match anx with|true=>Wk nV C tX sO n9|false=>MU nV C tX sO n9):=m
theorem OC ar bI ep:Ip eq=h sO:=m
theorem abQ ar bI en bJ:DY eo=a (lG DZ Io (yJ nV C tX sO sO)) (kY Ip h):=m
noncomputable def MV G:e d:=a au λb=>h b
noncomputable def Wl B:e d:=a au λb=>a (wh [b,g]) λc=>h c
noncomputable def Wm s:e d:=a (q .Z i j) λb=>(match b with|true=>MV f|false=>Wl f g)
noncomputable def Wn I:e d:=a au λb=>a cH λc=>a b6 (Wm f g i)
noncomputable def Wo G(g:It):e d:=a (ki g.ad (λb=>a Y λc=>a (sV [c,b]) λk=>k6 .ag k λp=>z p λW=>hm) g.ae) λy5=>a cI λy6=>a (H .az [y6]) (Wn f y6)
noncomputable def Wq G:e d:=a au λb=>a cH λc=>a bK (Wo f)
noncomputable def Wr B:e d:=a aF λb=>a cH λc=>a (lG DX Im (Bc f g none b none)) (kY DY h)
theorem GU ar:AM aE=a bC λQ=>a cE λM=>z M λkJ=>(match kJ with|true=>Wq C|false=>Wr nV C):=m
noncomputable def MX I:e d:=a et λb=>a (ki b.ad (λc=>a Y λk=>a (sV [k,c]) λp=>k6 .ag p λW=>z W λy5=>(match y5 with|true=>h bd|false=>h [])) b.ae) λy6=>a ev λy7=>a (wh [g,y7]) λy8=>h y8
theorem aa6 ar:AR aE=a bC λQ=>a bC λw1=>a hk (MX C Q):=m
noncomputable def Ws I:e d:=a (A g i) λb=>a (O .bM b f) λc=>h c
noncomputable def Wt B:e d:=a Y λb=>a au λc=>a (O .aR c R) (Ws g b)
noncomputable def Wu I:e d:=a (O .a7 (.al 9) i) λb=>a (O .av g b) λc=>a (O .FloorDiv c (.al 7)) λk=>a (O .bM k f) λp=>h p
noncomputable def Wv s:e d:=a (O .av i j) λb=>a Y λc=>a b6 (Wu g b)
noncomputable def Ww I:e d:=a (O .a7 i (.al 41)) λb=>a au λc=>a (O .a7 (.al 23) c) (Wv f g b)
noncomputable def Wx B:e d:=a au λb=>a au λc=>a (O .a7 b c) (Ww f g)
noncomputable def Wy s:e d:=a (q .bL i j) λb=>(match b with|true=>Wt f g|false=>Wx f g)
noncomputable def MY B:e d:=a au λb=>a Y λc=>a b6 (Wy f g b)
theorem aaP(nc nM:d):qe [nc,nM]=a (A nc R) λQ=>a (O .av Q R) λM=>a (pn nc R M) λE=>MY nc nM:=m
theorem aaY(nc ME:d):q3 [nc,ME]=a (H .az [ME]) λK=>a (qe [nc,K]) λM=>a (A ME M) λw2=>h w2:=m
noncomputable def Ie ap:e d:=lD cb eO ((L cR).aj 1) ρ as h aq
noncomputable def Wz am:e o:=a (lQ cb j lJ [l]) λb=>a ex λc=>a b6 λk=>a (O .aR k R) λp=>h (.next (Ec g i (.ah [aM,p]) br))
theorem abH(aa x P Ar:d) b9:Ig aa ez=a cN λQ=>a (mG cb Q lJ) λE=>a (T (.S [aa,Ar])) (Wz aa x P Q):=m
theorem abG eA b9:Ie ez=h Ar:=m
theorem aaW eA:wo [x,P,Ar]=lY P none none aW λakx=>a (m9 akx) λSl=>a (aK Sl.ad Ig Sl.ae (Ec x P Ar none)) (kY Ie h):=m
noncomputable def WB G:e d:=a eB λb=>a cO λc=>h (.ah [bN,c])
noncomputable def WC s:e d:=a (T (.S [g,j])) λb=>a (lQ eC i lJ aI) λc=>a a1 WB
theorem aaN(x Vz P:d):um [x,Vz,P]=a eD λQ=>a (mG eC Q lJ) λE=>a (H .S [P]) (WC x Vz Q):=m
noncomputable def H9 ap:e d:=lD bQ cW ((L cV).aj 2) ρ as h aq
theorem Ox cP:H8 cQ=a bu λw1=>a (q .Z w1 aM) λkJ=>h kJ:=m
noncomputable def WD I:e o:=a aT λb=>a aF λc=>a aD λk=>a (A k R) λp=>h (.next (D_ f p i))
theorem abv cP:H7 cQ=a (mG bQ rW lJ) λE=>a (A w R) λw3=>a (lQ bQ rW lJ [w3]) λE=>WD x w rW:=m
theorem abw cP:H9 cQ=h (.ah [rW,w]):=m
theorem aaO bO:wm bv=a aA λnY=>a (lG H8 H7 (D_ x w nY)) (kY H9 h):=m
noncomputable def WE G:e d:=a au λb=>a d_ λc=>h c
noncomputable def WG B:e d:=a a1 λb=>a aF λc=>a aD WE
noncomputable def WH B:e d:=a eG λb=>a (ki b.ad (λc=>a aT λk=>a (A k c) λp=>a (A p X) λW=>h [W]) b.ae) λy5=>a cI λy6=>h y6
noncomputable def WI B:e d:=a eI λb=>aY b λc=>aX c λk p=>a (q .Z p bf) λW=>(match W with|true=>WH f k|false=>h .none)
theorem NV bO:vp bv=a bu λQ=>a eK λkE=>(match kE with|true=>WG x w|false=>WI x w):=m
noncomputable def MZ aJ aN:e d:=a aZ λb=>a bw λc=>a eL λk=>h k
noncomputable def WJ aJ aN:e d:=a a0 λb=>a bx λc=>a eL λk=>z k λp=>(match p with|true=>MZ f g i j|false=>h aG)
noncomputable def WK aJ aN:e d:=a ex λb=>a aZ λc=>a aD (WJ f g j)
noncomputable def WM aJ aN:e d:=a ex λb=>a aZ λc=>a aD (WK f g j)
noncomputable def WN aJ(g:d)(i:It):e d:=a (ki i.ad (λb=>aY b λc=>aX c λk p=>a (vo f [g,k,p]) λW=>k6 .ag W λy5=>z y5 λy6=>(match y6 with|true=>h [R]|false=>h [])) i.ae) λy7=>a eM λy8=>a aA λAx=>a (q .Z y8 Ax) λMK=>h (.a8 MK)
noncomputable def M0 aJ aN:e d:=a aZ λb=>a bw λc=>a (yf ec) (WN f g)
noncomputable def WO aJ(g i j l n:d):e d:=a eN λb=>a (q .aC l b) λc=>(match c with|true=>h aG|false=>M0 f g i j)
noncomputable def M1 aJ aN:e d:=a aZ λb=>a bE λc=>a bw (WO f g i j c)
noncomputable def WQ aJ aN:e d:=a a0 λb=>a bx λc=>a cc λk=>(match k with|true=>h aG|false=>M1 f g i j)
noncomputable def WR aJ aN:e d:=a eP λb=>a aZ λc=>a aD (WQ f g j)
noncomputable def WS aJ aN:e d:=a eP λb=>a aZ λc=>a aD (WR f g j)
noncomputable def WT aJ aN:e d:=a bx λb=>a cd λc=>(match c with|true=>WS f g i j|false=>h aG)
noncomputable def GA aJ aN:e d:=a a0 λb=>a cd λc=>(match c with|true=>WT f g i j|false=>h aG)
noncomputable def WV aJ aN:e d:=a bx λb=>a bP λc=>(match c with|true=>WM f g i j|false=>GA f g i j)
noncomputable def AA aJ aN:e d:=a a0 λb=>a bP λc=>(match c with|true=>WV f g i j|false=>GA f g i j)
theorem aaV(cL:Nat)(x nU oE:d):vo (cL+1) [x,nU,oE]=a (q .Z nU oE) λq0=>(match q0 with|true=>h bh|false=>AA cL x nU oE):=m
noncomputable def Ii ap:e d:=lD a3 c2 ((L c0).aj 2) ρ as h aq
theorem abJ cS bJ:DV cT=a aA λl2=>a (q .aC nE l2) λnB=>h nB:=m
noncomputable def WW am:e o:=a aT λb=>a eQ λc=>a aD λk=>a (lQ a3 j m6 bp) λp=>h ce
noncomputable def WX aw:e o:=a eR λb=>a (lQ a3 j m6 aI) λc=>h ce
noncomputable def WY am:e o:=a a1 λb=>a eQ λc=>a aD (WX f g i j l)
noncomputable def M3 am:e o:=a (A l X) λb=>a bP λc=>(match c with|true=>WW f g i j l|false=>WY f g i j l)
noncomputable def M4 am:e o:=a (mG a3 i lJ) λE=>a (lQ a3 i lJ [l]) λb=>a (mG a3 j m6) λE=>M3 f g i j l
noncomputable def WZ am:e o:=a (q .NotIn l i) λb=>(match b with|true=>M4 f g i j l|false=>h ce)
noncomputable def W0 aw:e o:=a (q .In n (.ah [aM,bN])) λb=>(match b with|true=>WZ f g i j l|false=>h ce)
theorem abI cS bJ:Ih cT=a (mG a3 nE pB) λE=>a (lQ a3 nE pB []) λu6=>a (A u6 X) (W0 x w MB nE u6):=m
theorem abK cS bJ:Ii cT=h MB:=m
theorem aaZ bO:yo bv=a aA λnY=>a (T (.S aH)) λl1=>a (lG DV Ih (yI x w nY l1 none)) (kY Ii h):=m
noncomputable def W2 I:e d:=a a0 λb=>a (um [f,b,g]) λc=>h c
noncomputable def W4 I:e d:=a a1 λb=>a aF λc=>a aD (W2 f i)
noncomputable def M5 B:e d:=a (wo [f,g,bf]) λb=>h b
theorem aaL(x w P:d):uh [x,w,P]=a bu λQ=>a eK λkE=>(match kE with|true=>W4 x w P|false=>M5 x P):=m
noncomputable def HZ ap:e d:=lD ch ci ((L fc).aj 3) ρ (λρ=>lD ch ci ((L c6).aj 2) ρ as h aq) h aq
noncomputable def W5 G:e ay:=a (q .aC f bf) λb=>h b
theorem A4 cX cY:HY cZ=a (q .Gt vc X) λLD=>(match LD with|true=>W5 w|false=>h false):=m
noncomputable def W6 s dz gu:e o:=a eS λb=>a (O .aR j R) λc=>h (.next (D9 f g i b c l n))
noncomputable def W7 am gt:e o:=a aT λb=>a bw λc=>a aD (W6 f g i l n r)
theorem Ow cX cY:HX cZ=a bu λaqX=>a (q .aC aqX aM) λanp=>(match anp with|true=>h (.h aV)|false=>W7 x o4 C w vc Ct qp):=m
noncomputable def W8 B:e d:=a aT λb=>a aF λc=>a aD λk=>a eT λp=>h p
noncomputable def W9 B:e d:=a aB λb=>a bP λc=>(match c with|true=>W8 f g|false=>h bF)
theorem H6 cX cY:HZ cZ=a (q .Z vc X) λans=>(match ans with|true=>W9 x w|false=>h bF):=m
noncomputable def W_ s:e d:=a aZ λb=>a bk λc=>a (lG HY HX (D9 f g i j c none none)) (kY HZ h)
noncomputable def Xa s:e d:=a bx λb=>a (q .Z b a2) λc=>(match c with|true=>h aV|false=>W_ f g i j)
noncomputable def Xb s:e d:=a (q .aC g bR) λb=>(match b with|true=>h aV|false=>Xa f g i j)
noncomputable def Xd B:e d:=a au λb=>a bk λc=>a (A g c) λk=>h k
noncomputable def Xe s:e d:=a (pn g j i) λE=>a bG λb=>h b
noncomputable def Xf B:e d:=a bG λb=>a au λc=>a eV (Xe f g b)
noncomputable def Xg s:e d:=a (A i j) λb=>a (pn b R g) λE=>h f
noncomputable def Xh s:e d:=a (O .a7 i j) λb=>a a1 λc=>a aF (Xg g b c)
noncomputable def Xi s:e d:=a aF λb=>a ef λc=>a cx (Xh f i c)
noncomputable def GB am:e d:=a eW λb=>(match b with|true=>Xf i l|false=>Xi f i j l)
noncomputable def Xj am:e d:=a c1 λb=>a bk λc=>a g7 λk=>(match k with|true=>h aV|false=>GB f g i j l)
noncomputable def Xk am:e d:=a c1 λb=>a cf λc=>a (q .aC c a2) λk=>(match k with|true=>h aV|false=>Xj f g i j l)
noncomputable def Xl aw:e d:=a (q .Z l bT) λb=>(match b with|true=>Xk f g i j n|false=>GB f g i j n)
noncomputable def C4 aw:e d:=a eX λb=>(match b with|true=>Xd i n|false=>Xl f g i j l n)
noncomputable def Xn bH:e d:=a eN λb=>a (q .Lt r b) λc=>(match (!c) with|true=>h bF|false=>C4 f g i j l n)
noncomputable def Xo aw:e d:=a aZ λb=>a bk λc=>a (q .bL X c) λk=>(match k with|true=>Xn f g i j l n c|false=>h bF)
noncomputable def M6 aw:e d:=a (q .aC g bU) λb=>(match b with|true=>Xo f g i j l n|false=>C4 f g i j l n)
noncomputable def Xp s:e d:=a a1 λb=>a bw λc=>a aD λk=>aY k λp=>aX p λW y5=>M6 f g i j W y5
theorem GQ c3:wk c4=a aL λQ=>a (A Q X) λw1=>a (q .aC w1 bN) λkJ=>(match kJ with|true=>Xb x o4 C Q|false=>Xp x o4 C Q):=m
noncomputable def A5 ap:e d:=lD fg fk ((L c8).aj 5) ρ as h aq
noncomputable def Xq s ao(n r y D J:d):e o:=a (A J y) λb=>a (pn b R (.ah [aM,D])) λE=>h eY
noncomputable def Xr s ao c5:e o:=a (O .av r R) λb=>a eZ λc=>a aT (Xq f g i j l n r y c)
noncomputable def Xs s ao c5:e o:=a aT λb=>a (A b y) λc=>a (pn c R bf) λE=>h eY
theorem abF(aa x rX w P:d) e1 e2 e3:DU aa e4=aY aa λakt=>aX akt λMp Vl=>a (O .av Mp R) λLI=>a (H .az [rW]) λanE=>a (q .Lt LI anE) λanw=>(match anw with|true=>Xr x rX w P tX rW Mp Vl|false=>Xs x rX w P tX rW Mp Vl):=m
noncomputable def Xu G:e d:=a Y λb=>h (.ah [aM,b])
theorem abE(x rX w P:d) e1 e2 e3:A5 e4=a aA λaku=>a (q .aC rW aku) λanz=>(match anz with|true=>Xu rW|false=>h bf):=m
noncomputable def Xv I:e d:=a (uh e5) λb=>h b
noncomputable def Xx s:e d:=a cx λb=>a e6 λc=>a gE λk=>(match k with|true=>h g|false=>Xv f g j)
noncomputable def M7 s:e d:=a c7 λb=>a (ki b.ad (λc=>a (yl [f,g,c]) λk=>k6 .ag k λp=>z p λW=>(match W with|true=>h bd|false=>h [])) b.ae) λy5=>a cI (Xx f i j)
noncomputable def Xy s(l:It):e d:=a (ki l.ad (λb=>a aT λc=>a e7 λk=>a eT λp=>a (yl [f,g,p]) λW=>k6 .ag W λy5=>z y5 λy6=>(match y6 with|true=>h aI|false=>h [])) l.ae) λy7=>a eM λy8=>a (JN [y8]) λAx=>a (aK Ax.ad DU Ax.ae (Ba f g i j none none y8 none)) (kY A5 h)
noncomputable def M8 s:e d:=a (wm [f,i]) λb=>a cf λc=>a bK (Xy f g i j)
noncomputable def Xz s:e d:=a a0 λb=>a cd λc=>(match c with|true=>M7 f g i j|false=>M8 f g i j)
theorem NU(x rX w:d):AH [x,rX,w]=a e8 λK=>a e9 λkE=>(match kE with|true=>h aV|false=>Xz x rX w K):=m
noncomputable def Ij ap:e d:=lD fm fq ((L da).aj 5) ρ as h aq
theorem abM(aa x w P nL:d) e_:Ik aa fa=a cN λaqY=>a (A aqY aa) λMG=>a (pn MG R nL) λE=>h (.next (Ed x w P (.ah [aM,aa]) cu)):=m
theorem abL(x w P nL:d) e_:Ij fa=h nL:=m
noncomputable def M9 I:e d:=a a1 λb=>a aF λc=>a aD λk=>a (pn k R i) λE=>h g
noncomputable def XA s:e d:=a bx λb=>a (q .Z b bT) λc=>(match c with|true=>lY i none none aW λk=>a (uh [f,g,k]) λp=>h p|false=>lY i none none aW (M9 f g))
noncomputable def XC I:e d:=a a1 λb=>a aF λc=>a aD (XA f g i)
noncomputable def XD I:e d:=a eI λb=>a cf λc=>a bK λk=>a (aK k.ad Ik k.ae (Ed f g i bf none)) (kY Ij h)
noncomputable def XE I:e d:=a aB λb=>a cd λc=>(match c with|true=>XC f g i|false=>XD f g i)
theorem GS bO:yq bv=a e8 λK=>a e9 λkE=>(match kE with|true=>h aV|false=>XE x w K):=m
noncomputable def M_ I:e d:=a aF λb=>a fe λc=>h c
noncomputable def XG s:e d:=a bw λb=>a (A i b) λc=>a (pn c R g) λE=>a au λk=>h k
noncomputable def Na B:e d:=a aF λb=>a aT λc=>a aB (XG g b c)
noncomputable def Nb B:e d:=a aB λb=>a cf λc=>a (q .aC c aM) λk=>(match k with|true=>h aV|false=>Na f g)
noncomputable def XH I:e d:=a (wk e5) λb=>h b
noncomputable def Nc B:e d:=a (um [f,a9,g]) λb=>h b
noncomputable def XI I:e d:=a aZ λb=>a (O .a7 g b) λc=>a (um [f,a9,c]) λk=>h k
noncomputable def Nd B:e d:=a aF λb=>a ef λc=>a aB (XI f c)
noncomputable def Nf B:e d:=a aB λb=>a bk λc=>a (q .GtE c X) λk=>(match k with|true=>Nd f g|false=>h aV)
noncomputable def Ng B:e d:=a aB λb=>a fh λc=>a cD λk=>a g1 λp=>h (.ah [a2,p])
noncomputable def Nh B:e d:=a aB λb=>a aF λc=>a (AH [f,b,c]) λk=>h k
noncomputable def Ni B:e d:=a aB λb=>a (yq [f,b]) λc=>h c
noncomputable def XK I:e d:=a eh λb=>a fe λc=>h c
noncomputable def XM I:e d:=a et λb=>a fi λW=>a dI (XK f g)
noncomputable def Nj s:e d:=a fj λb=>(match b with|true=>h aV|false=>lY i none aW none (XM f g))
noncomputable def Nk B:e d:=a eG λb=>a fi λW=>a dI λy5=>a (um [f,a9,y5]) λy6=>h y6
noncomputable def Nl G:e d:=a Y λb=>a bE λc=>h bV
noncomputable def XN I(j:It):e d:=a (ki j.ad (λb=>a aB λc=>a (yl [f,c,b]) λk=>k6 .ag k λp=>z p λW=>hm) j.ae) λy5=>a cI λy6=>a (uh [f,i,y6]) λy7=>h y7
noncomputable def GC I:e d:=a aF λb=>a a0 λc=>a bK (XN f g b)
noncomputable def Nm I:e d:=a aB λb=>lY b none none aW λc=>a (uh [f,i,c]) λk=>h k
noncomputable def Nn I:e d:=a aB λb=>a (uh fd) λc=>h c
noncomputable def XQ s:e d:=a a0 λb=>a (q .Z g cj) λc=>(match c with|true=>Nm f j b|false=>Nn f j b)
noncomputable def XR s:e d:=a fl λb=>(match b with|true=>GC f i j|false=>XQ f g i j)
noncomputable def XS s:e d:=a (q .Z g cl) λb=>(match b with|true=>Nl j|false=>XR f g i j)
noncomputable def XT s:e d:=a (q .Z g cm) λb=>(match b with|true=>Nk f j|false=>XS f g i j)
noncomputable def Np s:e d:=a fj λb=>(match b with|true=>h aV|false=>XT f g i j)
noncomputable def XU s:e d:=a fl λb=>(match b with|true=>lY j c9 none none (Np f g i)|false=>Np f g i j)
noncomputable def XW s:e d:=a (q .Z g bW) λb=>(match b with|true=>lY j none aW none (Nj f i j)|false=>XU f g i j)
noncomputable def XX I:e d:=a et λb=>a (ki b.ad (λc=>a (vp [f,c]) λk=>h bp) b.ae) λp=>a cB (XW f g i)
noncomputable def XY I:e d:=a (q .Z g bz) λb=>(match b with|true=>Ni f i|false=>XX f g i)
noncomputable def X0 I:e d:=a fn λb=>(match b with|true=>Nh f i|false=>XY f g i)
noncomputable def X3 I:e d:=a (q .Z g bl) λb=>(match b with|true=>Ng f i|false=>X0 f g i)
noncomputable def X4 I:e d:=a fo λb=>(match b with|true=>Nf f i|false=>X3 f g i)
noncomputable def X5 I:e d:=a (q .Z g a9) λb=>(match b with|true=>Nc f i|false=>X4 f g i)
noncomputable def X6 I:e d:=a (q .In g (.ah [bR,cg,bS,bU])) λb=>(match b with|true=>XH f g i|false=>X5 f g i)
noncomputable def X7 I:e d:=a (q .Z g cn) λb=>(match b with|true=>Nb f i|false=>X6 f g i)
theorem aaQ c3:l9 c4=a (q .Z o4 co) λq0=>(match q0 with|true=>lY C none c9 none (M_ x C)|false=>X7 x o4 C):=m
noncomputable def X8 aw:e d:=a (A l n) λb=>a bk λc=>a (T (.S [(.ah [g,i]),(.ah [j,c])])) λk=>a (lQ cp f m6 bp) λp=>h bh
noncomputable def X_ aw:e d:=a (ab j nj) λb=>a aT λc=>a aF (X8 i l n b c)
noncomputable def Yb aw:e d:=a aF λb=>a eZ λc=>a cD (X_ f g i j l)
noncomputable def Yc s:e d:=a (mG cp i m6) λE=>a (ab j p6) λb=>a aT (Yb f g i j b)
noncomputable def Ye B:e d:=a eB λb=>a (q .Z g b) λc=>h fr
noncomputable def Yg I(j:b7 d):e d:=a (T (.S j)) λb=>a (lQ cp f m6 aI) λc=>a e6 (Ye g)
noncomputable def Yh I:e d:=a gD λb=>a fs λE=>a ft fu
noncomputable def Yi I:e d:=a dK λb=>a fs λE=>a ft fu
noncomputable def Yj s:e d:=a (q .Z i bT) λb=>(match b with|true=>Yh f g j|false=>Yi f g j)
noncomputable def Yk s:e d:=a a1 λb=>a aF λc=>a aD λk=>aY k λp=>aX p λW y5=>Yj i j W y5
noncomputable def Yl am:e d:=a (q .Z l aM) λb=>(match b with|true=>Yc f g i j|false=>Yk f g i j)
theorem aaT(x w nE:d):AG [x,w,nE]=a fv λQ=>a (A Q w) λw1=>a bu (Yl x w nE w1):=m
noncomputable def Ic ap:e d:=lD bY dh ((L dg).aj 2) ρ as h aq
theorem abC dc dd:DT de=a aA λl1=>a (q .aC nE l1) λkJ=>h kJ:=m
noncomputable def Ym s ao bi:e o:=a eS λb=>a (q .aC n b) λc=>(match c with|true=>h ak|false=>h df)
noncomputable def Yn s ao bi:e o:=a (H .ai [n,gw]) λb=>k6 .ag b λc=>z c λk=>(match k with|true=>h ak|false=>Ym f g i j l n r)
noncomputable def Yo s ao bi:e o:=a (H .ai [n,gv]) λb=>z b λc=>(match c with|true=>h ak|false=>Yn f g i j l n r)
noncomputable def Yp s ao bi:e o:=a (q .be n a4) λb=>(match b with|true=>h ak|false=>h df)
noncomputable def Yq s ao bi:e o:=a bm λb=>a (A b r) λc=>a (q .be n c) λk=>(match k with|true=>h ak|false=>h df)
noncomputable def Yr aw:e o:=a bm λb=>a fw λE=>a fx λc=>k6 .ag c λk=>z k λp=>(match p with|true=>h ak|false=>h (.next (wF f g i j cU b3 (t aM))))
noncomputable def Ys aw fy:e o:=a fz λb=>a aA λc=>a cc λk=>(match k with|true=>h ak|false=>Yr f g i j l n)
noncomputable def Yt aw:e o:=a bm λb=>a fA λc=>a fB (Ys f g i j l n)
noncomputable def Yu aw:e o:=a fC λb=>a (A b aM) λc=>a (H .ai [l,c]) λk=>k6 .ag k λp=>z p λW=>(match W with|true=>h ak|false=>Yt f g i j l n)
noncomputable def Yv bH:e o:=a bm λb=>a fw λE=>a fx λc=>k6 .ag c λk=>z k λp=>(match p with|true=>h ak|false=>h (.next (wF f g i j cU b3 b2)))
noncomputable def Yw bH(y:b7 d):e o:=a (T (.S y)) λb=>a aA λc=>a cc λk=>(match k with|true=>h ak|false=>Yv f g i j l n r)
noncomputable def GD bH:e o:=a bm λb=>a fA λc=>a fB (Yw f g i j l n r)
noncomputable def Yx gQ:e o:=a (H .ai [l,y]) λb=>k6 .ag b λc=>z c λk=>(match k with|true=>h ak|false=>GD f g i j l n r)
noncomputable def Yz bH:e o:=a fE λb=>a fC λc=>a e7 (Yx f g i j l n b)
noncomputable def YA aw:e o:=a a1 λb=>a eR λc=>a aD (Yz f g i j l n)
noncomputable def YB aw:e o:=a (A n X) λb=>a bP λc=>(match c with|true=>Yu f g i j l n|false=>YA f g i j l n)
noncomputable def YC s ao bi:e o:=a bm λb=>a (q .In r b) λc=>(match c with|true=>Yq f g i j l n r|false=>YB f g i j n r)
noncomputable def YD s ao bi:e o:=a fE λb=>a fG λc=>(match c with|true=>Yp f g i j l n r|false=>YC f g i j l n r)
noncomputable def Nr s ao c5:e o:=a (q .Z y a2) λb=>(match b with|true=>Yo f g i j l n r|false=>YD f g i j l n r)
theorem abB dc dd:Ib de=a (mG bY nE pB) λE=>a (lQ bY nE pB []) λr3=>aY r3 λl4=>aX l4 λaqs Vm=>a (A Vm X) (Nr x As Aq nE Ct aqs Vm):=m
theorem abD dc dd:Ic de=h bh:=m
theorem aaU(x As Aq:d):rZ [x,As,Aq]=a (T (.S [(.ah [As,Aq])])) λnY=>a (lG DT Ib (wF x As Aq nY none none none)) (kY Ic h):=m
noncomputable def DR ap:e d:=lD fF fI ((L di).aj 2) ρ as h aq
theorem aby(aa x nE:d) cF:H_ aa fH=a (AG [x,aa,nE]) λM=>k6 .ag M λr2=>z r2 λnB=>(match nB with|true=>h ak|false=>h (.next (Ea x nE cu))):=m
noncomputable def YE G:e d:=a aA λb=>a (q .Z f b) λc=>h fr
theorem abx(x nE:d) cF:DR fH=a (m9 nE) λCb=>a (ki Cb.ad (λy=>aY y λKL=>aX KL λMq Mn=>a (rZ [x,Mq,Mn]) λLH=>k6 .ag LH λsJ=>z sJ λLC=>(match LC with|true=>h [R]|false=>h [])) Cb.ae) λaqW=>a (T (.S aqW)) YE:=m
theorem aaS(x:d):AF [x]=a aA λnY=>a fv λMG=>a (H .S [MG]) λaks=>a (m9 aks) λSh=>a (aK Sh.ad H_ Sh.ae (Ea x nY none)) (kY DR h):=m
noncomputable def YF B:e d:=a bm λb=>a (A b g) λc=>h c
noncomputable def Nt B:e d:=a aB λb=>a fG λc=>(match c with|true=>h a4|false=>YF f g)
theorem aaX bO:ym bv=a bu λQ=>a (q .Z Q a2) λkE=>(match kE with|true=>MV w|false=>Nt x w):=m
theorem aa0(o4 C:d):yp [o4,C]=a (T (.b8 [(bW,(.an 474)),(cm,(.an 481)),(dk,(.an 488)),(cj,(.an 495)),(bz,(.an 502)),(bX,(.an 507)),(ck,(.an 512)),(bR,(.an 432)),(cg,(.an 439)),(bS,(.an 446)),(bU,(.an 453)),(a9,(.an 460)),(c_,(.an 467)),(cl,(.an 418)),(bl,(.an 425)),(co,(.an 277)),(cn,(.an 284))])) λey=>a (rV (a (A ey o4) λw2=>a (tE (tb yE) w2 [.none,C]) λr3=>a (T (.S [fJ,r3])) λl4=>h l4) Bq rq) λM=>h M:=m
noncomputable def YG G:e d:=a dG λb=>h b
noncomputable def YI B:e d:=a fL λb=>a cO λc=>a (T (.S [g,bV])) λk=>h k
noncomputable def Nu I:e d:=a fL λb=>a cO λc=>a (T (.S [g,bV,i])) λk=>h k
noncomputable def YJ B(i:ay):e d:=a (H .al [(.a8 i)]) λb=>a (O .aR g b) λc=>a (T (.S [bV,f])) λk=>h k
noncomputable def YK B:e d:=a (qe [f,dn]) λb=>a (qe [f,(.al 5)]) λc=>a (q .Z c dn) (YJ g b)
noncomputable def Nv s:e d:=a (q3 b5) λb=>a (T (.S fN)) λc=>a fO λk=>a (O .av R k) λp=>lY c none (t p) none λW=>h W
noncomputable def YL B:e d:=a fO λb=>a (T (.S [(.ah [a2,b]),g])) λc=>h c
noncomputable def Nx B:e d:=a gZ λb=>h b
noncomputable def YM I:e d:=a (qe [f,ba]) λb=>a (q .Z b X) λc=>(match c with|true=>YL f i|false=>Nx g i)
noncomputable def Ny s:e d:=a (q .In g (.ah [bX,ck])) λb=>(match b with|true=>YM f i j|false=>Nx i j)
noncomputable def YN am:e d:=a (q .In g (.ah [bW,cm,a9])) λb=>(match b with|true=>Nv f i j l|false=>Ny f g j l)
noncomputable def Nz am:e d:=a fo λb=>(match b with|true=>YK f j|false=>YN f g i j l)
noncomputable def YQ am:e d:=a eW λb=>(match b with|true=>Nu f j l|false=>Nz f g i j l)
noncomputable def YR am:e d:=a eX λb=>(match b with|true=>YI f j|false=>YQ f g i j l)
noncomputable def NB am:e d:=a (q .In g (.ah [dk,cj,bz,cl,bl])) λb=>(match b with|true=>YG j|false=>YR f g i j l)
theorem aaM(nc x o4:d):wj [nc,x,o4]=a (A x dq) λQ=>a fP λM=>a fP (NB nc o4 Q M):=m
noncomputable def Ia ap:e d:=lD dj dm ((L fM).aj 3) ρ (λρ=>lD dj dm ((L dl).aj 2) ρ as h aq) h aq
noncomputable def YS aw fy:e o:=a fz λb=>a aA λc=>a cc λk=>(match k with|true=>h (.h bh)|false=>h (.next (Eb g i j l n br)))
theorem abA(aa x o4 C Gr MC:d) b9:DS aa fQ=a (yo [x,aa]) λanC=>a (m9 anC) λSi=>a (ki Si.ad (λPY=>a (q .In PY Gr) λanu=>(match anu with|true=>h [PY]|false=>h [])) Si.ae) (YS aa x o4 C Gr MC):=m
theorem abz(x o4 C Gr MC:d) b9:Ia fQ=h aG:=m
noncomputable def YT B:e d:=a aB λb=>a eh λc=>a (yo [f,c]) λk=>a (q .In b k) λp=>h (.a8 p)
noncomputable def NC aw:e d:=a (O .av l n) λb=>a (m9 b) λc=>a (aK c.ad DS c.ae fS) fT
noncomputable def YU am:e d:=a aA λb=>a (O .av l b) λc=>a bK λk=>a (aK k.ad DS k.ae fS) fT
noncomputable def YV am:e d:=a fn λb=>(match b with|true=>lY i none c9 none (NC f g i j l)|false=>YU f g i j l)
noncomputable def YW s:e d:=a c7 λb=>a (ki b.ad (λc=>a aT λk=>a eV λp=>a (A k p) λW=>a (A W X) λy5=>h [y5]) b.ae) λy6=>a ev (YV f g i j)
noncomputable def YZ s:e d:=a c7 λb=>a (ki b.ad (λc=>h [(.ah [aM,c])]) b.ae) λk=>a dr (YW f g i)
noncomputable def Y0 I:e d:=a c1 λb=>a fh λc=>a cD (YZ f g i)
noncomputable def Y3 I:e d:=a (q .In g (.ah [bX,bz])) λb=>(match b with|true=>Y0 f g i|false=>h aG)
theorem GR c3:vn c4=a (q .In o4 (.ah [cn,bS,bU])) λq0=>(match q0 with|true=>YT x C|false=>Y3 x o4 C):=m
noncomputable def HV ap:e d:=lD a_ cr ((L cq).aj 3) ρ as h aq
noncomputable def HW ap:e d:=lD a_ cr ((L cq).aj 7) ρ as h aq
noncomputable def ND s bg(N V mh o5:d):e o:=a ds λb=>a dt λE=>a fU λc=>h (.next (yH g i j br l du dv dw fV n r y D J U))
noncomputable def Y4 s bg fW:e o:=a (wo [j,N,bf]) λb=>a (sX [V]) λc=>a (rZ [j,c,b]) λk=>k6 .ag k λp=>z p λW=>(match W with|true=>h ak|false=>ND f g i j l n r y D J U N V b c)
noncomputable def Y5 s bg dx:e o:=a (k9 125 sU [V]) λb=>a dy λc=>k6 .ag c λk=>z k λp=>fX
noncomputable def Y6 s bg dx:e o:=a (k9 104 ug [V]) λb=>a dy λc=>k6 .ag c λk=>z k λp=>fX
noncomputable def Y7 s bg dx:e o:=a (um [j,mh,N]) λb=>a (q .Z f ba) λc=>(match c with|true=>Y5 f g i j l n r y D J U N V b|false=>Y6 f g i j l n r y D J U N V b)
noncomputable def Y8 s bg fW:e o:=a (T (.S [a9,bT])) λb=>a (O .aR f ba) λc=>a aD (Y7 f g i j l n r y D J U N V)
noncomputable def Y9 s bg(N:d)(V:It):e o:=a (ki V.ad (λb=>a bk λc=>h bd) V.ae) λk=>a dr λp=>a (q .Lt f ba) λW=>(match W with|true=>Y4 f g i j l n r y D J U N p|false=>Y8 f g i j l n r y D J U N p)
noncomputable def Za s bg(N:It):e o:=a (ki N.ad (λb=>a (qe [i,dp]) λc=>h [bV]) N.ae) λk=>a dr λp=>a (m9 p) (Y9 f g i j l n r y D J U p)
theorem ar4 fZ f0:DP aa f1=a (qe [nc,dp]) λsJ=>a (O .av R sJ) λCB=>a (rO [CB]) (Za aa qd nc x t6 Cu pQ rM o_args tW tV):=m
noncomputable def Zb s ax bA:e o:=a cs λb=>k6 .ag b λc=>z c λk=>(match k with|true=>h ak|false=>h f3)
noncomputable def Zc s ax bA:e o:=a (T (.S [f4,mh])) λb=>a (q .aC V b) λc=>(match c with|true=>h ak|false=>Zb f g i j l n r y D J U N V mh)
noncomputable def Zd s ax bA:e o:=a ds λb=>a dt λE=>a fU λc=>a cs λk=>k6 .ag k λp=>z p λW=>(match W with|true=>h ak|false=>h f3)
noncomputable def Ze s ax bA:e o:=a (A V R) λb=>a dy λc=>k6 .ag c λk=>z k λp=>(match p with|true=>h ak|false=>Zd f g i j l n r y D J U N V mh)
noncomputable def Zf s ax bA:e o:=a (A V X) λb=>a f5 λc=>(match c with|true=>h ak|false=>Ze f g i j l n r y D J U N V mh)
noncomputable def Zg s ax ct:e o:=a (yp [bl,V]) λb=>a (l9 [j,bl,N]) λc=>a f6 λk=>z k λp=>(match p with|true=>Zc f g i j l n r y D J U N b c|false=>Zf f g i j l n r y D J U N b c)
noncomputable def Zh s ax dA:e o:=a f7 λb=>a f8 λp=>a cB (Zg f g i j l n r y D J U N)
noncomputable def Zi s ax bZ:e o:=a cs λb=>k6 .ag b λc=>z c λk=>(match k with|true=>h ak|false=>h f9)
noncomputable def Zj s ax bZ:e o:=a (T (.S [f4,o5])) λb=>a (q .aC mh b) λc=>(match c with|true=>h ak|false=>Zi f g i j l n r y D J U N V mh o5)
noncomputable def Zl s ax bZ:e o:=a ds λb=>a dt λE=>a (lQ a_ b lJ [o5]) λc=>a cs λk=>k6 .ag k λp=>z p λW=>(match W with|true=>h ak|false=>h f9)
noncomputable def Zm s ax bZ:e o:=a (A mh R) λb=>a (rZ [j,b,o5]) λc=>k6 .ag c λk=>z k λp=>(match p with|true=>h ak|false=>Zl f g i j l n r y D J U N V mh o5)
noncomputable def Zn s ax bZ:e o:=a (A mh X) λb=>a f5 λc=>(match c with|true=>h ak|false=>Zm f g i j l n r y D J U N V mh o5)
noncomputable def Zo s ax bA:e o:=a (yp [N,mh]) λb=>a (l9 f_) λc=>a f6 λk=>z k λp=>(match p with|true=>Zj f g i j l n r y D J U N V b c|false=>Zn f g i j l n r y D J U N V b c)
noncomputable def NF s ax ct:e o:=a (m9 V) λb=>a f8 λp=>a cB (Zo f g i j l n r y D J U N V)
noncomputable def Zp s ax(J U:d):e o:=a (q3 [i,J]) λb=>a (wj fN) λc=>a (vn [j,b,c]) λk=>z k λp=>(match p with|true=>lY c aW none none ga|false=>NF f g i j l n r y D J U b c)
noncomputable def Zq s ax ct:e o:=a (vn f_) λb=>z b λc=>(match c with|true=>lY V aW none none ga|false=>NF f g i j l n r y D J U N V)
noncomputable def Zr s ax ct:e o:=a (O .av N V) λb=>a (q3 [i,b]) λc=>a (wj [i,j,c]) (Zq f g i j l n r y D J U c)
noncomputable def Zs s ax dA:e o:=a (H .sum [N]) λb=>a (O .av U b) λc=>a (q .Lt c (.al 60)) λk=>(match k with|true=>Zp f g i j l n r y D J c|false=>lY J (t (.al 8)) (t (.al 12)) none λp=>lY J (t (.al 14)) (t (.al 16)) none (Zr f g i j l n r y D J c p))
noncomputable def Zt s ax dA:e o:=a f7 λb=>a (ki b.ad (λc=>aY c λk=>aX k λp W=>a (H .az [W]) λy5=>h [y5]) b.ae) λy6=>a ev (Zs f g i j l n r y D J U)
theorem ar5 fZ gb gc gd:DQ aa ge=a cN λMH=>a (H .az [MH]) λxX=>a eD (Zt aa qd nc x tZ qp tY qq rL Au xX):=m
theorem abu gf gb gc gd:HW ge=h bh:=m
noncomputable def Zu I gg(o5 arC:d):e d:=a (O .av fK arC) λb=>a (rO aI) λc=>a (aK c.ad DQ c.ae (wD f g i j l n r y D o5 J U N V mh)) (kY HW h)
noncomputable def Zv I gg(o5:d):e d:=a (mG a_ o5 lJ) λE=>a (lQ a_ o5 lJ [bz]) λb=>a (qe [g,(.al 11)]) (Zu f g i j l n r y D J U N V mh o5)
theorem abt gf f0:HV f1=a (T (.S [bW,bW,cm,dk,cj,bz,bX,ck,bR,cg])) λakv=>a (T (.S [bS,bU,a9,c_,cl,bl,co,co,cn])) λakw=>a (O .av akv akw) (Zv qd nc x tZ t6 qp tY qq rL pQ rM o_args tW tV):=m
noncomputable def Zw s:e d:=a (T (.b8 [])) λb=>a (T (.S [(.ah [a2,X]),(.ah [a2,R]),(.ah [a2,aU]),bf])) λc=>a (T (.b8 [(cJ,i),(ca,j),(db,b),(dq,c)])) λk=>a (rO [dn]) λp=>a (aK p.ad DP p.ae (yH f g k none none none none none none none none none none none none)) (kY HV h)
noncomputable def Zx B:e d:=a (T (.S [g,X])) λb=>a aA λc=>a aA (Zw f b c)
theorem aaR(qd:d):AE [qd]=lY qd none (t (.al 63)) none λnY=>a (m9 nY) λSg=>a (ki Sg.ad (λaf4=>a (H .abs [af4]) λCC=>h [CC]) Sg.ae) λaqV=>a (T (.S aqV)) (Zx qd):=m
end
end
mutual
example _ h ρ b a ζ h' e o x q n l jR List ws i ρ' some Addr hb u v w jG own Heap Ext p size t r τ jV get? Nat Value vs y mY Kept nil V sl jD W keep mv(i:A b a q f)(E:m b a l o)c cons elim _ _ _ _ _ _ _ _ _ _ _ ind objs ac Option ho ht trans d hd k{c:s}{h:Obj}hV ha kept(i:M P b a q f)h'' casesOn get «at» length mpr reverse[{h with aW:=Q}]IsTup absurd j(b:G){a f:z}{d:s}(aj:∀h,a.H d=r h->∃Q,f.H d=r ax)(g:a.H c=r h)(t:c∉y b)B IsList bn bool dk drop glob hW hc h₂ h₃ m not_lt refl s slots take[λe=>⟨⟩](k:I)[.ref d]{f:z}{k:I}(a:z)IsCell append ep es le_trans mem_append mem_flatMap mem_of_getElem? motive_1 motive_2 reverse_cons toArray z{K:Array J}[⟨_,g,aP,k,ai⟩][λe e=>⟨⟩](D:pY S a)(i:s8 S b a q f)(E:x b a v w)[I.aT.av (D _ j).1](p:I)[.aK c](v:R)[l++l'][o++ud](L:x b a v w)[l.aM k][o.aM k][λk=>k.ar .O λe=> .O][l.aX k][o.aX k]«by»[p k][l.set k v][o.set k w][v::l][w::o]{b:G}(i:N f c h)(j:aL h.data≠0){B:s×ad s}[z.lt_size g](g:b[k]?=r B):True:=x
mutual
section
open PySem.Calls
noncomputable abbrev G:=n (s×ad s)
noncomputable def y aB:n s:=b.flatMap λB=>B.1::B.2.toList
theorem xS(b F:G):y (b++F)=y b++y F:=by simp [y]
theorem t7 bE a2 bH(a:b[k]?=r B):B.1∈y b:=
 n.a_.av ⟨B,n.ba a,n.mem_cons_self⟩
theorem Lu bE a2{d ah:s}(a:b[k]?=r (d,r ah)):ah∈y b:=
 n.a_.av ⟨_,n.ba a,n.mem_cons_of_mem _ (by simp)⟩
mutual
inductive x(b:G)(a:z):R->J->Prop
 |none:x b a .none .none
 |aK (c:Bool):x b a bo bo
 |int (p:Int) (D:Tok):x b a (.int p) (.int p D)
 |str (aV:Str) (D:Tok):x b a (.str aV) (.str aV D)
 |tup {l:n R} {d:s} {K:n J}:d∉y b->ay a d K.be->m b a l K->x b a (.tup l) a0
 |obj {k:I} {B:s×ad s}:b[k]?=r B->x b a (.obj k) (.ref B.1)
 |aN {d:s}:d<aH->x b a (.aN d) a0
 |aJ (c:Bn) {w:J}:w=BB c->x b a (.aJ c) w
 |tK {l:n R} {d:s} {K:n J}:d∉y b->d<aH->a.aI d K.be->m b a l K->x b a (.tK l) a0
inductive m(b:G)(a:z):n R->n J->Prop
 |O:m b a [] []
 |Y {v:R} {w:J} {l:n R} {o:n J}:x b a v w->m b a l o->m b a bC bD
end
noncomputable def aL:Data->I
 | .dict .. =>0
 | .cell _=>1
 | .fields _=>2
 |_=>3
noncomputable def N(f:z)(c:s)(h:Obj):Prop:=∃Q,f.H c=r ax/\(aL h.data≠0->Q=h.aW)
theorem N.same a1 ak al(g:f.H c=r h):N f c h:=⟨h.aW,g,λe=>rfl⟩
theorem N.ag{aQ aR:z} ak al(i:N aQ c h)(L:∀o',aQ.H c=r o'->N aR c o'):N aR c h:=by obtain ⟨Q,g,ah⟩:=i;obtain ⟨aoQ,e',d'⟩:=L _ g;exact ⟨aoQ,e',λj=>(d' j).ag (ah j)⟩
theorem N.as a1 ak al bF:∃Q,f.H c=r ax:=let ⟨Q,g,_⟩:=i;⟨Q,g⟩
theorem N.exact a1 ak al bF bG:f.H c=r h:=by obtain ⟨Q,g,ah⟩:=i;rw[g,ah j]
structure M(P:n s)(b:G)(a:z)(q:G)(f:z):Prop where
 pre:∃F,q=b++F/\∀d∈y F,a.ab.C<=d
 C:a.ab.C<=f.ab.C
 ao:∀c h,a.H c=r h->c∉y b->c∉P->N f c h
noncomputable def DN aB(a f:z):Prop:=a.ab.C<=f.ab.C/\∀c h,a.H c=r h->c∉y b->N f c h
structure A(b:G)(a:z)(q:G)(f:z):Prop where
 pre:∃F,q=b++F/\∀d∈y F,a.ab.C<=d
 T:DN b a f
structure s8(S:n s)(b:G)(a:z)(q:G)(f:z):Prop where
 pR:∀(k:I) (B:s×ad s),b[k]?=r B->q[k]?=r B
 T:∀c h,a.H c=r h->c∉y b->c∉S->c∉y q/\∃Q,f.H c=r ax
noncomputable def pY(S:n s) a3:Prop:=∀c∈S,aH<=c/\∀K,¬ay a c K
theorem pY.O{a:z}:pY [] a:=λe j=>nomatch j
theorem as4:y []=[]:=rfl
mutual
section
variable {P S:n s}{b q pG:G}{a f aq:z}{c:s}{h:Obj}{k:I}{B:s×ad s}
theorem M.pP ap aF aG:c∉y q:=
 i.pre.Z λF d=>d.1▸xS b F▸λj=>(n.a9.mp j).Z t λj=>az bI (I.aT.av (d.2 c j))
theorem M.pR ap bJ:q[k]?=r B:=
 i.pre.Z λe d=>d.1▸(n.getElem?_append_left (n.getElem?_eq_some_iff.mp g).1).ag g
theorem M.U ap:s8 P b a q f:=⟨λe e=>i.pR,λc h g t am=>⟨i.pP g t,(i.ao c h g t am).as⟩⟩
theorem M.mono ap(am:∀d∈P,d∈S):M S b a q f:=⟨i.pre,i.C,λc h g t j=>i.ao c h g t λbf=>j (am c bf)⟩
theorem M.ag ap(L:M P q f pG aq):M P b a pG aq:=
 ⟨i.pre.Z λF d=>L.pre.Z λk8 X=>⟨F++k8,X.1.ag (d.1▸n.append_assoc b F k8),λc t=>(n.a9.mp (xS F k8▸t)).Z (d.2 c) λj=>I.a8 i.C (X.2 c j)⟩,
  I.a8 i.C L.C,λc h g t aO=>(i.ao c h g t aO).ag λo' e'=>L.ao c o' e' (i.pP g t) aO⟩
theorem M.ext ap(am:∀d∈P,a.ab.C<=d):A b a q f:=
 ⟨i.pre,i.C,λc h g t=>i.ao c h g t λj=>az bI (I.aT.av (am c j))⟩
theorem DN.aU aB a3:DN b a a:=⟨I.le_refl _,λe h g e=> .same g⟩
theorem A.stay(aj:DN b a f):A b a b f:=⟨⟨[],(n.append_nil b).symm,λe j=>nomatch j⟩,aj⟩
theorem A.aU aB a3:A b a b a:= .stay (.aU b a)
theorem A.C V:a.ab.C<=f.ab.C:=i.T.1
theorem A.v V(P:n s):M P b a q f:=⟨i.pre,i.C,λc h g t e=>i.T.2 c h g t⟩
theorem A.U V:s8 [] b a q f:=(i.v []).U
theorem A.pP V ak al aF aG:c∉y q:=(i.v []).pP g t
theorem A.ag V(L:A q f pG aq):A b a pG aq:=((i.v []).ag (L.v [])).ext λe j=>nomatch j
theorem A.as V ak al aF aG:∃Q,f.H c=r ax:=(i.T.2 c h g t).as
theorem A.exact V ak al aF aG bG:f.H c=r h:=(i.T.2 c h g t).exact j
theorem A.pR V a2 bH bJ:q[k]?=r B:=(i.v []).pR g
end
theorem aj_ aC aD bg(D:ay a d K) aE:ay f d K:=
 let ⟨h,ae,aP,k,ai⟩:=D;let ⟨_,g⟩:=aj h ae;bh
theorem aj7 aC aD bg(D:a.aI d K) aE:f.aI d K:=
 let ⟨h,ae,aP,k,ai⟩:=D;let ⟨_,g⟩:=aj h ae;bh
theorem La aC aD{aS:Str->ad J}(D:a.Ns d aS) aE:f.Ns d aS:=
 by obtain ⟨h,a7,a6,ae,ai,E⟩:=D;exact (aj h ae).Z λe g=>⟨_,a7,a6,g,ai,E⟩
theorem R6 aC aD{v:ad J}(D:a.a4 d v) aE:f.a4 d v:=
 let ⟨h,ae,ai⟩:=D;let ⟨_,g⟩:=aj h ae;⟨_,g,ai⟩
mutual
section
variable {S:n s}{b q:G}{a f:z}{l l':n R}{o ud:n J}{v:R}{w:J}
theorem m.aa{j:n R->n J->Prop}(k:j [] [])(X:∀{v w l o},x b a v w->m b a l o->j l o->j bC bD) W:j l o:=
 m.rec (bb:=λe e e=>True) (bc:=λl o e=>j l o) ⟨⟩ aY bi bi (λe e e e=>⟨⟩) aY aY (λe e e=>⟨⟩) (λe e e e e=>⟨⟩) k (λd c e p=>X d c p) E
theorem x.U bj bk bl:x q f v w:=
 x.rec (bb:=λv w e=>x q f v w) (bc:=λl o e=>m q f l o) .none .aK .int .str
  (λan af e p=> .tup (af.Z λe X=>(i.T _ _ X.1 an λj=>(D _ j).2 _ af).1) (aj_ af λe g=>(i.T _ _ g an λj=>(D _ j).2 _ af).2) p) (λg=> .obj (i.pR _ _ g)) .aN .aJ
  (λan t af e p=> .tK (af.Z λe X=>(i.T _ _ X.1 an λj=>az t bm).1) t (aj7 af λe g=>(i.T _ _ g an λj=>az t bm).2) p) .O (λe e p aA=> .Y p aA) E
theorem m.U bj bk W:m q f l o:=E.aa (j:=m q f) .O λd e p=> .Y (d.U D i) p
theorem x.ext V bl:x q f v w:=E.U .O i.U
theorem m.ext V W:m q f l o:=E.U .O i.U
theorem m.au W:l.au=o.au:=E.aa (j:=λl o=>l.au=o.au) rfl λe e p=>congrArg (· +1) p
theorem m.as W:∀bn bp,l[p]?=r v->∃w,o[p]?=r w/\x b a v w:=
 E.aa (j:=λl o=>∀bn bp,l[p]?=r v->∃w,o[p]?=r w/\x b a v w) (λe e g=>nomatch g) λd e aA p v=>p.ar (λg=>⟨_,rfl,ad.r.inj g▸d⟩) λp=>aA p v
theorem m.a5 W(L:m b a l' ud):m b a bq br:=E.aa (j:=λl o=>m b a bq br) L λd e p=> .Y d p
theorem m.snoc(i:m b a l o) bs:m b a (l++[v]) (o++[w]):=i.a5 (.Y L .O)
theorem m.aw W:m b a l.aw o.aw:=E.aa (j:=λl o=>m b a l.aw o.aw) .O λd e p=>by rw[n.bd,n.bd];exact p.snoc d
theorem m.aM aZ W:m b a bt bu:=
 E.aa (j:=λl o=>∀k,m b a bt bu) bv (λd c p k=>k.ar (.Y d c) p) k
theorem m.aX aZ W:m b a bw bx:=
 E.aa (j:=λl o=>∀k,m b a bw bx) bv (λd c p k=>k.ar .O λk=> .Y d bz) k
theorem m.set aZ W bs:m b a bA bB:=
 E.aa (j:=λl o=>∀k,m b a bA bB) (λe=> .O) (λd c p k=>k.ar (.Y L c) λk=> .Y d bz) k
end
end
end
mutual
example _ h e a x ρ some b s r w q List o p n ra rb ζ jG g u v c f y Nat i m vs Value k l σ A h' t Q hm env length ws C heap va vb j ha jR hb d get? Addr _ _ _ _ _ _ _ _ _ _ _ E jD ac hl ρ' M ho toArray G hn es h1 Heap h2 hv size fs{e:jV}Option «at» e1 hx own wpAny e2 Int ref trans Bool{a:am}K Str hu1 inj mpr σ' Ext Shared X hp z int(t:ai e G a)nil T hk hq toks type(t:ai e G h.Q)bnd cons hs h₀ R cls inl list{G:jE}F PySem W elim kindOf obj{F:l ab}P hu inr toList L hd isList le_trans lim ns_ objs Around Array data h64 he ofObj same{a I:am}{h:aL}[e++[(a.bn.ap,none)]]«by» a3 h0 h4 hmn len replicate succ{H:bo}{o:z}{R S:D}{c:Z}B IsList Post a2 absurd b2 c1 cLine d1 get hz isStrOf_shape ofInt plain push rec units{v:ab}{O:l D}hd' ho' Calls Tok a4 ab and_eq_true_iff at? base beq binaryOp cell congrArg flatten fn getElem?_eq_getElem gl h3 hB hall hne ik isInt_shape mem_cons_self motive not_lt prog toNat zero[(c,none)][f v][KZ P.cs P.j](d:aK e a ae I){j:D}(e:jV){d:aF}{m:ko}[a.bY ob]{A:az}{c g:ab}[.aA c][by decide]Env Except RcAt RcNeAt S a1 acc bs dd decide_eq_true dict e3 eqBool glob hc inst locals lookup lst ofStr of_decide_eq_true out slot tup{aa:D->aL->Prop}[.head _](n:bM i E (s) e h K){B o:z}(a:small A=true)[ab×ab][aP (as.f.aH a▸b)][ej R S]{k:aC}Builtin D IsTup Nodup a5 alloc beq_iff_eq c2 cells d2 «do» ep fields g1 get?_push_of_some getElem?_eq_some_iff hf hr mem_flatMap mem_singleton refs replicate_succ{cs:fh}{j:World}[.str d](a:K false h)[model cs j][.str c J](i:lg e a m n)[.aP g u][by simp][.c4 A g][lk aM d][.bb o][.aA w](x:FR a9 aM M jF e h.Q){n:Z×as Z}[e++[n]][a.bY {a3:= .aW "list",bq:= .seq C.ah}]{i:cJ ab β×jE}[aF⊕az](p:s e h.Q c R)(q:s e h.Q g S)[⟨_,ag,rfl⟩]{B:z}(br:∃m,P.a1.Y 64=f m/\m.a3≠ .aW "tuple")(ck:64<bK)[.bb B](m:Obj)(a:am)DictEntry bi bool builtin casesOn cl dp e5 error findIn flat flatten_cons fr free h5 h₁ int_int isInt isSame isStrOf items list_none lt_size mem_of_getElem? mixHash mroIn newList none_list pair str_str tupleKind wpAny_isSame_ref_other(v:D)(xB:H.in1.b0+x<bR)[eqv G x][.aA g](aG:H.b0<bR)[λa=>self (ce _ a)][cM+3](J:pY a9 a)(d:s8 a9 e a ae I)(aO:KE e a ms xs)[g.mv J d][λr b=>nomatch b]{ks:l dS}{K:aC->aL->Prop}(aj:e[o]?=f n)[⟨_,b⟩](W:∀g m,P.a1.Y g=f m->I.Y g=f m)[t.sG c U][aF×kN]{M:cI}{e ae:jV}{α β a2:Type}[.str d J](h:aL){i:cJ ab a2×jE}[.d5 "object.__class__"][h.aV+1]{pos:Pos}(df:q6 aS)[eval (.Name d pos) M][.refl _ _][G++[m]][(a.bn.ap,none)][.bb G.N][aF×ab][l dS×Z×D][.aP d][.c5 F](p:s e h.Q dZ R){d y:l ab}(x:z)(c g:ab)(k:aC){C:bp D}EqMixed FloorDiv ItemsAre Program PyProof V add_le_add_left add_le_add_right add_lists append b1 baseOf builtinsNs call_meets choose_spec cw e4 eq eq_iff_iff h6 hasDictIn hj hw hy if_neg intBits is le_of_ble_eq_true length_cons length_nil listFitsIndex lists_lengths lt_of_le_of_lt mainGlobals mem_cons mem_cons_of_mem mul_le_mul_left natAbs ne_of_gt nodup_append none_none plainGet richCompare slot_int_rmul toList_inj tuples typeIs_int wpAny_Name wpAny_bind wpAny_holding wpAny_isSame_plain wpAny_isSame_ref_self wpAny_pure wpAny_truthy_bool[dk.mp aO](H:bo)(R S:D)(E:I.Y c=a.Y c)(ih:Oc e G h x)(self:R=S->k=true)[.a5 F](L:G[B]?=f (.a5 d))[.cS ak]{c:aF}(aO:oR e a aq ak)[c.mv J d]{J:b6}{g:az}{u:b6}(b:qa F=f ks)(i:s e a e8 j)(h:∀c∈Aa n,I.Y c=a.Y c)[(h _ c7).aB c][.tail _ c7][⟨_,c⟩](U:c∈aw e)[a.bY m](d:aK e a e I)(h:∀c∈aw e,I.Y c=a.Y c)[.c3 A][d==("__classdict__":aF)]{a9:l Z}(E:aF⊕az){aM:l eP}{jF:jL}(x:FR a9 aM M jF e a)(d:aF)(G:jE)(o:z)(i:cJ ab a2×jE)[{h with Q:=I,aV:=tk}]{a2:Type}{E:β->af a2}{Bk:jV->am->β->α->Prop}(n:bM i E Bk e h K){qu:jV}{eg:am}{t₁:z}(d:aK e h.Q qu eg)[{h with Q:=eg,aV:=t₁}][d.aB x'](i:kR o H e a){w:Const}(b:Qg w E G=f i)(n:∀v j tk,s e h.Q v j->E v G=f i->K j {h with aV:=tk})[constValue M w][.d4 g](n:∀j,s e h.Q v j->K j h)[(by rw[x.ci];exact al.keeps t.ca)][n _ bP](b:uX aS aM d jF E G=f i)[av▸rfl](j:World)(nd:(aw e).dh){n k:Z×as Z}{E:aF⊕az}{v:D}[G.set o m](h:∀c,c∉aw e->∀m,a.Y c=f m->I.Y c=f m)[t.ca g m b][{h with aV:=h.aV+1}][k▸ag][i d][.aA a.bn.ap]{C:l D}{α β:Type}{B:af α}{E:α->af β}[(.d_ d,aJ)]{β:Type}[⟨_,rfl⟩](i:s e a dL j)[⟨_,_,rfl,c,g⟩]{c:ab}(rv:s e a v j)[λx1 x2=>x1++x2][tS G c][cc .Add R S][cc .Mult R S][⟨m,ag,by rw[cW.1];decide⟩](q:s e h.Q dL S)[bC▸a][.cV 64](q:s e h.Q dZ S)[.aA 64]{C O:bp D}{x:ab->ab->as aC}(d:V e a F O)(q:s e a dL j)(c:Z){d y:az}[.aP y]{d y:aF}[.str y][.c5 d][.c5 y](d:ng a c C)U bn dk id:True:=x
mutual
section
open a8.b5
noncomputable def qS:aF⊕az->D->aC
 | .a4 h,v=>D.ek h v
 | .bf A,v=>D.ei A v
theorem alO ex(c g:aF⊕az)(U:qS c v=true)(W:qS g v=true):c=g:=by
 cases c<;>cases g<;>simp only [qS] at U W
 ·rw[D.isStrOf_inj v _ _ U W]
 ·obtain ⟨J,rfl⟩:=D.bV U;simp [D.ei] at W
 ·obtain ⟨J,rfl⟩:=D.co U;simp [D.ek] at W
 ·rw[D.isInt_inj v _ _ U W]
theorem ah0 dA dB bG c6 bw ge gh gi gj eK dD:
  ax dE H (cU dF dH) K aa h:=by
 unfold cU;refine f1 ?_;rw[fC dI];refine f0 (B:=fU .Eq dF dH) (fe.eq_str_int ?_);exact f5 a
theorem ahZ dA dB bG c6 bw ge gh gi gj eK dD:
  ax dE H (cU dH dF) K aa h:=by
 unfold cU;refine f1 ?_;rw[fC dI];refine f0 (B:=fU .Eq dH dF) (fe.eq_int_str ?_);exact f5 a
theorem alP gx gB(J:b6) ex(a:qS E eT=true):qS E v=v.isStr d:=by
 cases E with
 |a4 y=>
  have a:D.ek y eT=true:=a;obtain ⟨u,be⟩:=D.bV a;injection be with av
  clear a;subst av;cases v<;>rfl
 |bf A=>simp [qS,D.ei] at a
theorem alR dA dB bG c6 bw{c g:aF⊕az}{u v:D} eK(be:qS c u=true)(ao:qS g v=true)(a:K (decide (c=g)) h):
  ax dE H (a8.cU u v) K aa h:=by
 cases c with
 |a4 d=>
  obtain ⟨J,rfl⟩:=D.bV be;cases g with
  |a4 y=>obtain ⟨t',rfl⟩:=D.bV ao;refine wpAny_eqBool_str ?_;simpa using a
  |bf T=>obtain ⟨t',rfl⟩:=D.co ao;refine ah0 ?_;simpa using a
 |bf A=>
  obtain ⟨J,rfl⟩:=D.co be;cases g with
  |a4 y=>obtain ⟨t',rfl⟩:=D.bV ao;refine ahZ ?_;simpa using a
  |bf T=>
   obtain ⟨t',rfl⟩:=D.co ao;refine wpAny_eqBool_int ?_;by_cases b:A=T
   ·clear ao;subst b;simpa using a
   ·rw[beq_eq_false_iff_ne.aI b];simpa [b] using a
noncomputable def ep g1:aF⊕az->az
 | .a4 h=>hashStr j h
 | .bf A=>hashInt A
theorem alS dA dB bG c6 bw g4 g5{K:az->aL->Prop}(ao:qS E v=true)
  (a:K (ep j E) g9):ax dE H (a8.pyHash v) K aa h:=by
 cases E with
 |a4 d=>obtain ⟨J,rfl⟩:=D.bV ao;exact wpAny_pyHash_str a
 |bf A=>obtain ⟨J,rfl⟩:=D.co ao;exact wpAny_pyHash_int a
theorem alQ gx ex(a:qS E v=true):carriedByValue v=true:=by
 cases E with
 |a4 h=>obtain ⟨J,rfl⟩:=D.bV a;rfl
 |bf A=>obtain ⟨J,rfl⟩:=D.co a;rfl
noncomputable def KZ(cs:fh) g1:KeyKind cs j dS:=
 ⟨qS,ep j,alO,alQ,λao a=>alS ao a,λbe ao a=>alR be ao a,alP⟩
inductive oR(e:jV)(a:am):l e5->l d2->Prop
 |aR:oR e a [] []
 |aZ {d:aF} {v:ab} {J:b6} {j:D} {aq ak}:s e a v j->oR e a aq ak->oR e a ((d,v)::aq) (⟨PyData.keyHash P.j.params d,.str d J,j⟩::ak)
inductive KE(e:jV)(a:am):l da->l e6->Prop
 |aR:KE e a [] []
 |aZ {F:l ab} {E:l dS} {c:Z} {v:ab} {j:D} {ak xs}:qa F=f E->s e a e8 cG->s e a v j->KE e a ak xs->KE e a ((.c5 F,v)::ak) ((E,c,j)::xs)
noncomputable def vO(w:z)(X:Z) d0:Prop:=match w with
 |38=>m.a3= .aA 38/\m.cS=f X/\∃C,m.bq= .dq C/\C[1]?=f .none
 |39=>m.a3= .aA 38/\m.cS=f X/\∃C,m.bq= .dq C/\1<C.ap
 |w=>m=instObj w X
noncomputable def ng d1 hB(C:bp D):Prop:=∃o,a.Y c=f {a3:= .aW "list",cS:=none,bq:= .seq C o,slots:= #[]}
theorem ng.bj aD bJ fd hI:a.bL c C:=let ⟨_,b⟩:=d;⟨_,b,rfl,_,rfl⟩
theorem ng.bu bv bJ fd hI f9:ng I c C:=let ⟨o,b⟩:=d;⟨o,E.aB b⟩
inductive lg(e:jV)(a:am):ko->Z×as Z->Prop
 |a5 {F:l ab} {c:Z} {C:l D}:ng a c C.ah->V e a F C->F.N<=bl->lg e a gb cv
 |vH {ak:l da} {c:Z} {x:aF->as D}:ak≠[]->(∀b∈ak,∃h,b.1= .str h)->a.MapOf (strKind P.cs P.j) c x->
   (∀d v,pL ak dC=f cw->∃j,x d=f j/\s e a v j)->lg e a gd cv
 |uJ {ak:l da} {c:Z} {xs}:a.DictOfH (ev cx) c xs->KE e a ak xs->ak.N<=bl->lg e a gd cv
 |cX {w:z} {aq:l e5} {c X:Z} {m:Obj} {ak:l d2} {o:z}:a.Y c=f m->vO w X m->a.Y X=f ⟨.aW "dict",none,.cS ak.ah o,#[]⟩->
   oR e a aq ak->aq.N<=100->lg e a (.cX w aq) (c,f X)
 |oB {cM:z} {d y:D}:IsZip a (cM+4) (cM+2) eD .none->IsPair a eD d y->lg e a .oB (cM+4,f eD)
structure ai(e:jV)(G:jE)(a:am):Prop where
 ca:∀g m,P.a1.Y g=f m->a.Y g=f m
 cP:bK<=a.bn.ap
 bD:e.N=G.N
 nd:(aw e).dh
 b8:∀c∈aw e,bK<=c
 ro:∀(o:z) (m:ko),G[o]?=f m->∃n,e[o]?=f n/\lg e a m n
mutual
section
variable {fj a9:l Z}{e ae:jV}{a I:am}{aq:l e5}{ak:l d2}{ms:l da}{xs:l e6}{m:ko}{n:Z×as Z}{G:jE}{o:z}
theorem oR.mv eE eF gf:oR ae I aq ak:=oR.bZ (cq:=λaq ak r=>oR ae I aq ak) .aR (λc r A=> .aZ gg A) aO
theorem KE.mv eE eF eG:KE ae I ms xs:=KE.bZ (cq:=λms xs r=>KE ae I ms xs) .aR (λE c g r A=> .aZ E gg eH A) aO
theorem oR.ext cy gf:oR ae I aq ak:=aO.mv .aR d.mv
theorem KE.ext cy eG:KE ae I ms xs:=aO.mv .aR d.mv
theorem KE.N eG:ms.N=xs.N:=KE.bZ (cq:=λms xs r=>ms.N=xs.N) rfl (λr r r r A=>ce (· +1) A) aO
end
theorem akp ar aD b1 cz g4(b:tQ v=f E)(i:s e a v j):qS E j=true:=
 s.bZ (motive_1:=λv j r=>tQ v=f E->qS E j=true) (motive_2:=λr r r=>True) (λb=>nomatch b) eI (λA r b=>as.f.aH b▸cR rfl) (λh r b=>as.f.aH b▸cR rfl)
  (λr r r r b=>nomatch b) eI eI (λr r r b=>nomatch b) (λr r r r r b=>nomatch b) ⟨⟩ (λr r r r=>⟨⟩) i b
theorem Fo b1{i:l ab} eJ(b:qa (v::i)=f ks):∃E F,tQ v=f E/\qa i=f F/\ks=E::F:=by
 replace b:(match tQ v,qa i with|f E,f ks=>f (E::ks)|_,_=>none)=_:=b;cases c:tQ v with
 |none=>rw[c] at b;cases b
 |f E=>cases g:qa i with
  |none=>rw[c,g] at b;cases b
  |f F=>rw[c,g] at b;exact ⟨E,F,rfl,rfl,(as.f.aH b).symm⟩
theorem akn ar aD bc b2 eJ gk(i:V e a F O):fg cx ks O:=
 i.ind (k:=λF O=>∀ks,qa F=f ks->fg cx ks O) (λr b=>as.f.aH b▸ .aR) (λc r A r b=>by obtain ⟨_,_,au,ay,cT⟩:=Fo b;exact cT▸ .aZ (akp au c) (A _ ay)) ks b
theorem s.aqe ar aD bc cz gl:∃c C,j= .aA c/\c∉aw e/\dg a c C.ah/\V e a F C:=by
 cases i with
 |c5 c g w=>exact ⟨_,_,rfl,c,g,w⟩
theorem s.isKey ar aD bc bJ eJ gk(i:s e a e8 cG):IsTupleKey cx a ks c:=by obtain ⟨g,C,k,_,⟨m,ag,cW,o,bi⟩,dv⟩:=i.aqe;exact ⟨m,_,o,D.aA.aH k▸ag,cW,bi,by simpa using akn b dv⟩
mutual
section
variable {fj a9:l Z}{e ae:jV}{a I:am}{ak:l da}{xs:l e6}{m:ko}{n k:Z×as Z}{G:jE}{o:z}{c:Z}
theorem KE.aj5(aO:KE e a ak xs):∀d∈xs,(ev cx).fE a d.1 d.2.1:=
 KE.bZ (cq:=λr xs r=>∀d∈xs,(ev cx).fE a d.1 d.2.1) (λr av=>nomatch av) (λE c r r A d av=>(l.fM.mp av).a_ (λb=>b▸s.isKey E c) (A d)) aO
theorem asI fd(J:a.bL c C) f9:I.bL c C:=let ⟨m,ag,i⟩:=J;⟨m,E.aB ag,i⟩
noncomputable def Aa(n:Z×as Z):l Z:=n.1::n.2.bg
theorem Ls eL(U:c∈Aa n):c∈aw e:=l.dw.aI ⟨n,l.eo aj,U⟩
theorem lg.mv eE eF dG gm:lg ae I m n:=
 lg.bZ (cq:=λm n r=>(∀c∈Aa n,I.Y c=a.Y c)->lg ae I m n) (λc g w h=> .a5 (c.bu (h _ c7)) eH w)
  (λaO c g w h=>by obtain ⟨m,ak,dp,ag,i⟩:=g;exact .vH aO c ⟨m,ak,dp,(h _ c7).aB ag,i⟩ λy v b=>(w y v b).imp λr X=>⟨X.1,X.2.mv J d⟩)
  (λc g w h=>by obtain ⟨m,ak,dp,ag,r1,r2,r3,_,CC⟩:=c;exact .uJ ⟨m,ak,dp,(h _ c7).aB ag,r1,r2,r3,(g.mv J d).aj5,CC⟩ eH w)
  (λc g w b x h=> .cX gn g ((h _ go).aB w) (b.mv J d) x) (λc g h=> .oB gn ((h _ go).aB g)) i h
theorem lg.ext cy dG gm:lg ae I m n:=i.mv .aR d.mv h
theorem Vh{k:Z->Prop}{c X:Z}(d:k c)(y:k X):∀g∈Aa (c,f X),k g:=λr W=>(l.fM.mp W).a_ (λb=>b▸d) λW=>l.dx.mp W▸y
theorem lg.at dG:∀c∈Aa n,∃ob,a.Y c=f ob:=
 lg.bZ (cq:=λr n r=>∀c∈Aa n,∃ob,a.Y c=f ob) (λc r r r W=>l.dx.mp W▸c.a_ λr b=>eM) (λr r g r r W=>l.dx.mp W▸g.a_ λr b=>by obtain ⟨_,_,b,_⟩:=b;exact eM)
  (λc r r r W=>l.dx.mp W▸c.a_ λr b=>by obtain ⟨_,_,b,_⟩:=b;exact eM) (λc r w r r=>Vh gp ⟨_,w⟩) (λc g=>Vh gp ⟨_,g⟩) i
theorem ai.bT aQ eL:∃m,G[o]?=f m/\lg e a m n:=by have lt:o<G.N:=t.bD▸(l.dt.mp aj).1;obtain ⟨k,aU,i⟩:=t.ro o _ (l.ch lt);exact ⟨_,l.ch lt,as.f.aH (aU.symm.aB aj)▸i⟩
theorem ai.alive aQ gq:∃m,a.Y c=f m:=by obtain ⟨n,aN,L⟩:=l.dw.mp U;obtain ⟨o,aj⟩:=l.getElem?_of_mem aN;obtain ⟨_,_,i⟩:=t.bT aj;exact i.at c L
theorem ai.sG aQ hB gq:c<a.bn.ap:=(t.alive U).a_ λr b=>am.en b
theorem aK.bY cA d1 d0:aK e a e gr:= .stay ⟨by simp,λg o' b r=> .bu (am.ds m b)⟩
theorem Rn d0(U:c<a.bn.ap):(a.bY m).Y c=a.Y c:=am.get?_push_ne _ _ _ (z.ne_of_lt U)
theorem ai.bu aQ gs eN gt:ai e G I:=
 ⟨W,z.bk t.cP d.ap,t.bD,t.nd,t.b8,λo m b=>(t.ro o m b).imp λr X=>⟨X.1,X.2.ext d λc U=>h c (Ls X.1 U)⟩⟩
theorem ai.bY aQ d0:ai e G gr:=
 t.bu (aK.bY e a m) (λg o' b=>am.ds m (t.ca g o' b)) λc U=>Rn m eO
end
end
mutual
section
open a8.b5
theorem alr{α:Type}{F:l (aF×α)} cB{v:α}(b:lk F d=f v):(d,v)∈F:=by
 induction F with
 |aR=>exact bm b
 |aZ n i ih=>
  replace b:(match j4 d n.1 with|true=>f n.2|false=>lk i d)=f v:=b;cases k:j4 d n.1 with
  |true=>rw[k] at b;rw[n8.mp k,<-as.f.aH b];exact l.cp
  |false=>rw[k] at b;exact l.fN _ (ih b)
noncomputable def kN.b_:as kN->as z
 |f (.c4 A _)=>f A
 |f gu=>f A
 |_=>none
structure FR(a9:l Z)(aM:l eP)(M:cI)(jF:jL)(e:jV)(a:am):Prop where
 cg:M.scope.kind= .function
 ci:M.globals=fL
 d3:M.builtins=fq
 bX:∀d k,lk aM d=f k->(d==("__debug__":aF))=false/\gv=false
 cV:∀d,lk aM d=f .ci->M.ba d=f .globalImplicit
 vR:∀d A g,lk aM d=f dJ->M.ba d=f (match g with|true=> .cd|false=> .local)
 c3:∀d A,lk aM d=f gu->M.ba d=f .cd\/M.ba d=f .ee
 lt:∀d A,kN.b_ dK=f A->A<jF.N
 aH:∀d y A,kN.b_ dK=f A->kN.b_ (lk aM y)=f A->d=y
 ns:∃B,a.Ns M.cY B/\∀d A g v,lk aM d=f dJ->M.ba d=f .local->jF[A]?=f cw->∃j,B d=f j/\s e a v j
 d7:∀d A,kN.b_ dK=f A->M.ba d=f .cd\/M.ba d=f .ee->∃w u,M.dm.cZ d=f w/\w∉aw e/\bK<=w/\a.IsCell w u/\
  ∀v,jF[A]?=f cw->∃j,u=f j/\s e a v j
 apart:∀d y w,M.dm.cZ d=f w->M.dm.cZ y=f w->d=y
 low:bK<=M.cY/\M.cY∉aw e/\M.cY∈a9
 ft:∀d A g w,lk aM d=f dJ->M.ba d=f .cd->M.dm.cZ d=f w->w∈a9
theorem FR.c4 gw gy eQ gz ar aD gA gB(A:z)(g:aC)(b:lk aM d=f dJ):M.ba d=f .local\/M.ba d=f .cd:=by
 have:=x.vR d A g b;clear b;cases g
 ·exact .a4 this
 ·exact .bf this
theorem FR.ext gw gy eQ gz eR bv gA cy:FR a9 aM M jF ae I:=by
 obtain ⟨B,L,ao⟩:=x.ns;have nl:M.cY∉aw ae:=by obtain ⟨m,_,_,ag,_⟩:=L;exact d.pP ag x.low.2.1
 refine ⟨x.cg,x.ci,x.d3,x.bX,x.cV,x.vR,x.c3,x.lt,x.aH,⟨B,La L λm b=>d.bT b x.low.2.1,λy A g v au ay cT=>?_⟩,λy A au ay=>?_,x.apart,⟨x.low.1,nl,x.low.2.2⟩,x.ft⟩
 ·obtain ⟨j,c,g⟩:=ao y A _ v au ay cT;exact ⟨j,c,g.ext d⟩
 ·obtain ⟨w,u,cN,bN,bz,b7,di⟩:=x.d7 y A au ay;refine ⟨w,u,cN,?_,bz,R6 b7 λm b=>d.bT b bN,λv b=>?_⟩
  ·obtain ⟨m,ag,_⟩:=b7;exact d.pP ag bN
  ·obtain ⟨j,fo,bP⟩:=di v b;exact ⟨j,fo,bP.ext d⟩
noncomputable def qg cA gC(a1 a:am) gD(b:Z):Prop:=
 ∃X oe C aq,e[o]?=f (b,f X)/\G[o]?=f (.cX 39 aq)/\a.Y b=f oe/\oe.a3= .aA 38/\oe.bq= .dq C/\1<C.ap/\
  (C[1]?=f .none\/∃aS oT ts,C[1]?=f (.aA aS)/\a1.bn.ap<=aS/\aS∉aw e/\a.Y aS=f oT/\oT.bq= .dq ts/\3<ts.ap)
noncomputable def bM eS gE(E:β->af a2)(Bk:jV->am->β->α->Prop) cA eU(K:α->aL->Prop):Prop:=
 ∀v j ae aJ I tk,aK e h.Q ae I->ai ae aJ I->Bk ae I v j->E v aJ=f i->K j gF
noncomputable def nF gG gE cA eU(aa:D->aL->Prop):Prop:=
 ∀o ae aJ I tk b,i=(.d_ dL,aJ)->aK e h.Q ae I->ai ae aJ I->qg ae aJ h.Q I o b->aa (.aA b) gF
theorem bM.mono eS eV gH gI ar bw{K Q':α->aL->Prop} gJ(a:∀c s',K c s'->Q' c s'):bM i E Bk e h Q':=
 λv j ae aJ I tk x' t vr b=>a _ _ (n v j ae aJ I tk x' t vr b)
theorem bM.after eS eV gH gI ar bw{K:α->aL->Prop} gJ
  gK gL gM gN:bM i E Bk qu gO K:=
 λv j ae aJ I tk x' t vr b=>n v j ae aJ I tk gP t vr b
theorem nF.after gG eV ar bw c6(n:nF i e h aa)
  gK gL gM gN:nF i qu gO aa:=
 λo ae aJ I tk b dv x' t x=>n o ae aJ I tk b dv gP t (by obtain ⟨X,oe,C,aq,c,g,w,d',e',f',k⟩:=x;exact ⟨X,oe,C,aq,c,g,w,d',e',f',k.imp hM λk=>by obtain ⟨aS,oT,ts,kE,kJ,nB⟩:=k;exact ⟨aS,oT,ts,kE,z.bk d.ap kJ,nB⟩⟩)
noncomputable def pW cA d1(M:cI):Prop:=M.scope.kind≠ .module/\∃bh m,M.frame=f bh/\bK<=bh/\bh∉aw e/\a.Y bh=f m/\hL m.bq=0
structure kR(o:z)(H:bo)(e:jV)(a:am):Prop where
 bi:H.handled=none
 d8:H.depth+3*o+5<=recursionLimit
 un:H.b0+30*o+60<=bR
 ed:∃aq,H.frames=f aq/\∀M∈aq,pW e a M
theorem pW.ext eR bv eQ(x:pW e a M) cy:pW ae I M:=by obtain ⟨c,bh,m,g,w,X,b,x⟩:=x;obtain ⟨sl,e'⟩:=d.bT b X;exact ⟨c,bh,_,g,w,d.pP b X,e',x⟩
theorem kR.ext bH bG eR bv gQ cy:kR o H ae I:=
 let ⟨aq,c,g⟩:=i.ed
 ⟨i.bi,i.d8,i.un,aq,c,λM bs=>(g M bs).ext d⟩
theorem kR.mono{o B:z} bG ar aD gQ(L:B<=o):kR B H e a:=
 ⟨i.bi,z.bk (z.fl (z.fk (z.fO 3 L) _) 5) i.d8,z.bk (z.fl (z.fk (z.fO 30 L) _) 60) i.un,i.ed⟩
theorem pW.fun ar aD{aq:l cI}(g:∀M∈aq,pW e a M):a.FunFrames P.a1 aq:=by
 induction aq with
 |aR=>exact ⟨⟩
 |aZ M aq ih=>
  obtain ⟨c,bh,m,au,ay,cT,fu,d9⟩:=g M l.cp;refine ⟨c,⟨bh,m,au,?_,fu,λC k=>by rw[k] at d9;exact nomatch d9⟩,ih λenv' bs=>g env' (l.fN _ bs)⟩;cases aU:P.a1.Y bh with
  |none=>rfl
  |f o'=>exact bO (am.en aU) (z.cr.aI ay)
structure Gz(aE:Frag)(w:z)(d:aF):Prop where
 n5:fT aE w d=true
 bi:fy aE w=true
 U:ea aE dM d=f none
 sa:ea aE dM "__setattr__"=f (f (.d5 "object.__setattr__"))
 po:plainOver aE w=true
structure HT(aE:Frag):Prop where
 aw:∀X∈[82,104,125,58],fT aE X "__class__"=true/\fy aE X=true/\ea aE (.aA X) "__class__"=f (f eW)/\eq aE X (.aW "object")=f true
 bT:specialIn aE eW "__get__"=f (f (.d5 "getset_descriptor.__get__"))/\takesIn aE eW=f true
 a3:∀w∈[82,104,125,146,181],(clsIn aE w).isSome=true/\typeIn aE dM=f (.aW "type")
 sub:∀X∈[82,104,125,58],∀w∈[82,104,125,146,181],eq aE X dM=f (z.cb X w)
 apw:∀X∈[82,104,125,58],∀J∈["int","bool","str"],eq aE X (.aW J)=f false
structure q6(aS:Tb):Prop where
 rI:P.aE.In P.a1
 br:∃m,P.a1.Y 64=f m/\m.a3≠ .aW "tuple"
 yX:64<bK
 Tt:P.a1.NoLimit
 xE:HT P.aE
 aR:∃ox od,InstAt P.a1 64 ox 58 (f od)
 attr:∀w d,mT w d nO=true->Gz P.aE w d
 top:∃mg mb,P.a1.Ns fL mg/\P.a1.Ns fq mb/\∀d v,lk aS.ai d=f v->∃j,(mg d=f j\/(mg d=none/\mb d=f j))/\∀e a,s e a v j
mutual
section
variable {H:bo}{M:cI}{a2:Type}{aS:Tb}{aM:l eP}{jF:jL}{e:jV}{G:jE}{h:aL}{a9:l Z}{i:cJ ab a2×jE}{E:ab->af a2}{K aa:D->aL->Prop}
theorem JF gR gS gT:ax P.af H gU K aa h:=by
 cases w with
 |none=>exact f4 (n _ _ h.aV .none b)
 |d4 g=>exact f4 (n _ _ h.aV gV b)
 |aP A=>exact λr r r=>n _ _ eX (.aP A _) b
 |str d=>exact λr r r=>n _ _ eX (.str d _) b
 |_=>cases b
theorem J6 cB b1 eY eZ dN aX(av:lk aM d=f .ci)(ao:lk aS.ai d=f v) gW:ax P.af H e0 K aa h:=by
 refine Name_function_global x.cg (x.cV d av) ?_ (x.bX d _ av).1;obtain ⟨mg,mb,al,an,cj⟩:=df.top;obtain ⟨j,bB,ef⟩:=cj d v ao;have k:=n j (ef e h.Q);clear ef n;rcases bB with bB|⟨bB,fx⟩
 ·exact loadGlobal_global gX bB k
 ·exact loadGlobal_builtin gX bB (by rw[x.d3];exact an.keeps t.ca) fx k
theorem PX cB{A:z} b1 dN(av:kN.b_ dK=f A)(aT:M.ba d=f .cd\/M.ba d=f .ee)(pc:gv=false)(ao:jF[A]?=f cw) gW:ax P.af H (loadName M d) K aa h:=by
 obtain ⟨w,u,cN,bN,bz,b7,di⟩:=x.d7 d A av aT;obtain ⟨j,rfl,bP⟩:=di v ao;rcases aT with aT|aT
 ·exact wpAny_loadName_cell x.cg aT cN b7 gY
 ·exact wpAny_loadName_free x.cg aT cN b7 gY pc
theorem UM{m:as (as ab)}{E:ab->af a2}(b:(match m with|f cw=>E v|_=>stuck) G=f i):∃v,m=f cw/\E v G=f i:=by
 rcases m with _|_|v
 ·exact bm b
 ·exact bm b
 ·exact ⟨v,rfl,b⟩
theorem Cp cB eY eZ dN aX gZ gT:
  ax P.af H e0 K aa h:=by
 unfold uX at b;rcases av:lk aM d with _|k
 ·rw[av] at b;exact bm b
 ·rw[av] at b;obtain ⟨pd,pc⟩:=x.bX d _ av;cases k with
  |c4 A g=>
   obtain ⟨v,ao,b⟩:=UM b;refine fZ ?_ pd;rcases x.c4 d A g av with aT|aT
   ·obtain ⟨B,L,ad⟩:=x.ns;obtain ⟨j,al,an⟩:=ad d A g v av aT ao;exact wpAny_loadName_local x.cg aT L al (n _ _ h.aV an b)
   ·exact PX x g0 (.a4 aT) pc ao λj rv=>n v j h.aV rv b
  |c3 A=>obtain ⟨v,ao,b⟩:=UM b;exact fZ (PX x g0 (x.c3 d A av) pc ao λj rv=>n v j h.aV rv b) pd
  |ci=>
   rcases ao:lk aS.ai d with _|v
   ·rw[ao] at b;exact bm b
   ·rw[ao] at b;exact J6 df x t av ao λj rv=>n v j h.aV rv b
  |bad=>exact bm b
theorem snd_const gR aX gS c8:ax P.af H gU K aa h:=
 JF b λv j tk rv b=>n v j e G h.Q tk e1 t rv b
theorem ao3 cB eY eZ dN aX gZ c8:
  ax P.af H e0 K aa h:=
 Cp df x t b λv j tk rv b=>n v j e G h.Q tk e1 t rv b
end
end
mutual
section
open a8.b5
theorem F6 ar g2:∀c9 g3 bJ,e[B]?=f n->e[o]?=f k->B≠o->c∈n.1::n.2.bg->c∉k.1::k.2.bg:=by
 induction e with
 |aR=>intro B o n k c L;simp at L
 |aZ d i ih=>
  intro B o n k c L aj cm U W;have S6:((d.1::d.2.bg)++aw i).dh:=by simpa [aw] using nd
  rw[l.fR] at S6;obtain ⟨_,n2,n3⟩:=S6;cases B with
  |cu=>
   cases o with
   |cu=>exact cm rfl
   |bF o=>simp at L aj;subst L;exact n3 c U c (l.dw.aI ⟨k,l.eo aj,W⟩) rfl
  |bF B=>
   cases o with
   |cu=>simp at L aj;subst aj;exact n3 c W c (l.dw.aI ⟨n,l.eo L,U⟩) rfl
   |bF o=>simp at L aj;exact ih n2 L aj (λb=>cm (by rw[b])) U W
theorem ai.snoc ar a6 bv cC dO aQ(d:aK e a dP I) eN
  gt(aN:∀c∈n.1::n.2.bg,a.bn.ap<=c)(hnd:(n.1::n.2.bg).dh)(i:lg dP I m n):ai dP e2 I:=by
 have nv:aw dP=aw e++(n.1::n.2.bg):=by simp [aw]
 refine ⟨W,z.bk t.cP d.ap,by simp [t.bD],?_,λc U=>?_,λo o' b=>?_⟩
 ·rw[nv,l.fR];exact ⟨t.nd,hnd,λc U g hb' b=>by subst b;exact bO eO (z.cr.aI (aN c hb'))⟩
 ·rw[nv,l.mem_append] at U;rcases U with U|U
  ·exact t.b8 c U
  ·exact z.bk t.cP (aN c U)
 ·by_cases aj:o<G.N
  ·rw[l.getElem?_append_left aj] at b;obtain ⟨k,aU,ro⟩:=t.ro o o' b;exact ⟨k,d.pR aU,ro.ext d λc U=>h c (Ls aU U)⟩
  ·have hn':o=G.N:=by
    have:=(l.dt.mp b).1;simp at this;omega
   clear aj;subst hn';simp at b;subst b;refine ⟨n,?_,i⟩;rw[<-t.bD];simp
set_option tactic.hygienic true in
theorem ai.upd ar a6 bv cC bH dO aQ eL gs eN
  (h:∀c,c∉n.1::n.2.bg->I.Y c=a.Y c)(i:lg e I m n):ai e g6 I:=by
 refine ⟨W,z.bk t.cP d.ap,by simp [t.bD],t.nd,t.b8,λB o' b=>?_⟩;rw[l.getElem?_set] at b
 split at b
 ·rename_i bC;subst bC
  split at b
  ·cases b;exact ⟨n,aj,i⟩
  ·cases b
 ·rename_i bC;obtain ⟨k,aU,ro⟩:=t.ro B o' b;have ne:∀c,c∈k.1::k.2.bg->c∉n.1::n.2.bg:=λc U=>F6 t.nd aU aj (λb=>bC b.symm) U;exact ⟨k,aU,ro.ext d λc U=>h c (ne c U)⟩
theorem ai.fp ar a6 bv aQ g7:∀g m,P.a1.Y g=f m->I.Y g=f m:=λg m b=>
 h g (λL=>bO (am.en b) (z.cr.aI (t.b8 g L))) m g8
theorem aK.aw ar bv(bU:a.bn.ap<=I.bn.ap) g7:aK e a e I:=
 ⟨⟨[],by simp,by simp [Mine.Internal.aw]⟩,bU,λg m b W=> .bu (h g W m b)⟩
theorem ai.CT ar a6 bv cC bH bJ aQ(aj:e[o]?=f cv)(a0:am.SameBut c a I)(i:aK e a e I->lg e I m cv):aK e a e I/\ai e g6 I:=by have ag:c∈aw e:=t7 aj;have d:aK e a e I:= .aw (by rw[a0.1];exact z.le_refl _) λg W m b=>(a0.2 g λk=>W g_).aB b;exact ⟨d,t.upd aj d (t.fp λg W m b=>(a0.2 g λk=>W g_).aB b) (λg W=>a0.2 g λk=>W (by simp [k])) ha⟩
theorem ai.Td ar a6 aD cC{ob:Obj} aQ(i:aK e a bx cD->lg bx cD m e3):
  aK e a bx cD/\ai bx e2 cD/\s bx cD e4 hb:=by
 have d:aK e a bx cD:=⟨⟨_,rfl,by simp [aw]⟩,by simp,λg o' b r=> .bu (am.ds ob b)⟩;refine ⟨d,t.snoc d (λg m b=>am.ds ob g8) (λc U=>Rn ob eO) dI dI ha,.bb (n:=e3) ?_⟩;rw[<-t.bD];simp
theorem aj6 d1(C:l D):ng dQ a.bn.ap C.ah:=⟨_,am.get?_push_size _ rfl⟩
theorem ai.er ar a6 aD bc hc aQ(rv:V e a F C)(ad:F.N<=bl):
  aK e a bx dQ/\ai bx (G++[.a5 F]) dQ/\
   s bx dQ e4 hb:=
 t.Td λd=> .a5 (aj6 a C) (rv.ext d) ad
theorem BD hd he hf a6 dR(b:aY B E G=f i):
  (∃c aJ,B G=f (.ok c,aJ)/\E c aJ=f i)\/(∃d aJ,B G=f hg/\i=hg):=by
 unfold aY at b;cases a:B G with
 |none=>rw[a] at b;cases b
 |f k=>
  rw[a] at b;obtain ⟨kE,kJ⟩:=k;cases kE with
  |d_ d=>cases b;exact .bf ⟨d,_,rfl,rfl⟩
  |ok c=>exact .a4 ⟨c,_,rfl,b⟩
theorem qw hh cC{E:ab->af β} a6 dR(b:aY (dj m) E G=f i):fits m=true/\E e4 e2=f i:=by
 unfold aY dj at b;cases a:fits m with
 |false=>rw[a] at b;cases b
 |true=>rw[a] at b;exact ⟨rfl,b⟩
mutual
section
variable {e:jV}{a:am}{j:D}
theorem s.bW cE(i:s e a (.aP A) j):∃J,j= .aP A J:=by cases i;exact hi
theorem s.z9(i:s e a .none j):j= .none:=by cases i;rfl
theorem s.ofBool{g:aC}(i:s e a gV j):j= .d4 g:=by cases i;rfl
theorem s.c1 cB(i:s e a dC j):∃J,j= .str d J:=by cases i;exact hi
theorem s.bt bH hj:∃n,j= .aA n.1/\e[o]?=f n:=by cases i;exact ⟨_,rfl,‹_›⟩
theorem s.uZ bJ(i:s e a (.cV c) j):j= .aA c:=by cases i;rfl
theorem s.TM{g:Bn}(i:s e a (.hK g) j):j=BB g:=by cases i;assumption
theorem s.sF bc gl:∃c C,j= .aA c/\c∉aw e/\dg a c C.ah/\V e a F C:=by cases i;exact ⟨_,_,rfl,‹_›,‹_›,‹_›⟩
theorem V.Mt b1 bc b2(i:V e a (v::F) O):∃j ud,O=j::ud/\s e a v j/\V e a F ud:=by
 cases i with
 |aZ c g=>exact hk
theorem V.end_ b2(i:V e a [] O):O=[]:=by cases i;rfl
theorem V.one hl b2(i:V e a [c] O):∃u,O=[u]/\s e a c u:=by obtain ⟨u,_,rfl,r1,i⟩:=i.Mt;cases i.end_;exact ⟨u,rfl,r1⟩
theorem V.two cF b2(i:V e a [c,g] O):∃u v,O=[u,v]/\s e a c u/\s e a g v:=by obtain ⟨u,_,rfl,r1,i⟩:=i.Mt;obtain ⟨v,rfl,r2⟩:=i.one;exact ⟨u,v,rfl,r1,r2⟩
theorem V.three{c g w:ab} b2(i:V e a [c,g,w] O):∃u v j,O=[u,v,j]/\s e a c u/\s e a g v/\s e a w j:=by obtain ⟨u,_,rfl,r1,i⟩:=i.Mt;obtain ⟨v,j,rfl,r2,r3⟩:=i.two;exact ⟨u,v,j,rfl,r1,r2,r3⟩
end
theorem ai.zW ar a6 aD b1 cz bc aQ hm(b:tS G v=f F):∃c C,j= .aA c/\a.bL c C.ah/\V e a F C/\F.N<=bl:=by
 cases v with
 |tK l'=>
  cases rv with
  |tK al an cj bB=>exact lM b λbU b=>as.f.aH b▸⟨_,_,rfl,cj,bB,z.fF bU⟩
 |bb o=>
  obtain ⟨n,rfl,aN⟩:=rv.bt;obtain ⟨p',mP,ro⟩:=t.ro _ _ (qz b);cases aN.symm.aB mP;cases ro with
  |a5 c g w=>exact ⟨_,_,rfl,c.bj,g,w⟩
 |_=>exact bm b
theorem ai.ry ar a6 aD b1 cz hh{E:l ab->af β} dR aQ hm(b:aY (Mine.Internal.ry v) E G=f i):
  ∃F c C,j= .aA c/\a.bL c C.ah/\V e a F C/\E F G=f i/\F.N<=bl:=
 nR b λF a b=>(t.zW rv a).a_ λc d=>d.a_ λC d=>⟨F,c,C,d.1,d.2.1,d.2.2.1,b,d.2.2.2⟩
end
mutual
section
open a8.b5
theorem Ah cE c_: -1000000000<=A:=c2 (aC.b9.mp a).1
theorem Ag cE c_:A<=1000000000:=c2 (aC.b9.mp a).2
theorem UN cE c_:A.fP<1073741824:=by have c:=Ah a;have g:=Ag a;clear a;omega
theorem aoY cE c_:¬(!de.l.fI A)=true:=λb=>by have k:de.l.fI A=true:=aC.b9.aI ⟨cR (az.bk cH (Ah a)),cR (az.fK (Ag a) cH)⟩;rw[k] at b;cases b
set_option tactic.hygienic true in
theorem aoX cE c_:de.az.fD A<=64:=by
 have I:=UN a;unfold de.az.fD
 split
 ·omega
 ·rename_i bA;have:A.fP.log2<30:=(z.log2_lt (by simpa using bA)).aI (by simpa using I);omega
theorem qo bH(a:o<=bl):o<=sizeLine:=z.bk a cH
theorem tD{c g:z}(a:z.ble c g=true):c<=g:=z.fF a
theorem V.eb ar aD bc hc(d:V e a F C):∀o:z,V e a (l.bE o F).cf (l.bE o C).cf
 |0=> .aR
 |o+1=>by rw[l.dz,l.dz,l.ec,l.ec];exact d.fn (V.eb d o)
theorem aiA(el:bp D) gD:∀cO:bp D,l.foldl hn cO (l.bE o el)=cO++((l.bE o el.bg).cf).ah:=by
 induction o with
 |cu=>exact λr=>bp.append_empty.symm
 |bF o ih=>intro cO;rw[l.dz,l.foldl_cons,ih,l.dz,l.ec,bp.append_assoc];refine ce (cO++·) (bp.fW.mp ?_);simp
mutual
section
variable {H:bo}{a2:Type}{e:jV}{G:jE}{h:aL}{i:cJ ab a2×jE}{E:ab->af a2}{K aa:D->aL->Prop}
theorem w5{α β γ:Type} he{x:α->af β}{E:β->af γ}:aY (aY B x) E G=aY B (λd=>aY (x d) E) G:=by unfold aY;rcases B G with _|⟨_|_,_⟩<;>rfl
theorem uQ hd cF bI aD{x:az->az->as α} hf dR(p:s e a c R)(q:s e a g S)(b:aY (tP c g x) E G=f i){bd:D->D->Prop}
  (k:∀d y J u w,x d y=f w->E w G=f i->bd (.aP d J) (.aP y u)):bd R S:=by
 refine nR b λw al au=>jZ al λd av an=>jZ an λy fB cj=>?_;obtain ⟨J,rfl⟩:=(qO av▸p).bW;obtain ⟨u,rfl⟩:=(qO fB▸q).bW;exact k d y J u w cj au
theorem fm cF bI aX dT dU(b:aY (rB λG=>ob ho λF=>ob (tS G g) λi=>f (dj (.a5 (F++i)))) E G=f i) c8:
  ax P.af H hp K aa h:=by
 refine BK b λB L b=>jZ L λF ad L=>jZ L λl' hl' L=>?_;cases L;obtain ⟨la,lv,rfl,al,an,_⟩:=t.zW p ad;obtain ⟨la',lv',rfl,EW,h2',_⟩:=t.zW q hl';clear p q ad hl';obtain ⟨du,ay⟩:=qw b;have ad:(F++l').N<=bl:=tD du;obtain ⟨x1,dr,r1⟩:=t.er (an.fn h2') ad;obtain ⟨⟨a3,cQ,bq,sl⟩,ag,rfl,o,rfl⟩:=al;obtain ⟨⟨asp,dd2,data2,sl2⟩,ho2,rfl,n2,rfl⟩:=EW;rw[l.length_append,an.N,h2'.N] at ad;refine concat_meets dV ⟨_,ho2,rfl⟩ noFill_list_add seq_list_add a8.a7.slot_list_add a8.a7.entry_list_add (a8.a7.args_list_add_2 _ _) (list_addW _ _ lv.ah lv'.ah _ _ cQ dd2 sl sl2 (qo ad)) ⟨ag,ho2,?_⟩;rw[l.append_toArray];exact n _ _ _ _ _ h.aV x1 dr r1 ay
theorem an2(lv:l D)(d:az):l.foldl hn #[] (l.bE (if lv.ah.isEmpty=true then 0 else d.ct) lv.ah)=((l.bE d.ct lv).cf).ah:=by
 rw[aiA];cases lv with
 |aR=>simp
 |aZ _ _=>simp
theorem alZ cF bI aX dT dU(b:aY (rB λG=>ob (tB g) λE=>kX (small E) (ob ho λF=>f (dj (.a5 (l.bE E.ct F).cf)))) E G=f i) c8:
  ax P.af H hq K aa h:=by
 refine BK b λB L b=>jZ L λd av L=>lM L λa0 L=>jZ L λF ad L=>?_;cases L;obtain ⟨la,lv,rfl,al,an,_⟩:=t.zW p ad;rw[qO av] at q;clear p ad av;cases q with
 |aP d J=>
 obtain ⟨du,ay⟩:=qw b;have ad:(l.bE d.ct F).cf.N<=bl:=tD du;obtain ⟨x1,dr,r1⟩:=t.er (an.eb d.ct) ad;obtain ⟨⟨a3,cQ,bq,sl⟩,ag,rfl,o,rfl⟩:=al;have bU:lv.N*d.ct<=bl:=by rw[l.length_flatten,l.map_replicate,l.sum_replicate_nat,an.N,z.mul_comm] at ad;exact ad
 refine wpAny_binaryOp_repeat_ref (aS:="list") (hJ:="int") cH dV (λs'=>fY s' d _) noFill_list_mul a7.fills_int_mul a7.fV repeat_list a7.slot_int_index.cZ
  (fr a7.fV (fY h d _) a7.entry_int_rmul (a7.args_int_rmul_2 _ _) (lm_int_rmul_list_any d _ _ lv.ah o cQ sl)
   ⟨ag,rfl,dV,fr a7.slot_list_mul dV a7.entry_list_mul (a7.args_list_mul_2 _ _)
    (lm_list_mul_any _ lv.ah o cQ sl d _ (aoY a0) (z.cr.aI (z.bk bU cH)) λb=>bO (c2 b) (z.cr.aI (qo bU)))
    ⟨ag,?_⟩⟩)
 rw[an2];exact n _ _ _ _ _ h.aV x1 dr r1 ay
theorem ao1{op:Operator} cF bI aX dT dU(b:aY (kh op c g) E G=f i) c8:
  ax P.af H (cc op R S) K aa h:=by
 have aP:∀{d:az},E e7 G=f i->K (.aP d h.aV) g9:=λa=>n _ _ e G h.Q eX e1 t (.aP _ _) a;cases op with
 |Add=>
  cases c with
  |bb B=>exact fm t p q b n
  |_=>exact uQ (bd:=λR S=>ax P.af H hp K aa h) p q b λd y J u w a b=>add_int db
 |Sub=>exact uQ (bd:=λR S=>ax P.af H (cc .Sub R S) K aa h) p q b λd y J u w a b=>sub_int db
 |Mult=>
  cases c with
  |bb B=>exact alZ t p q b n
  |_=>exact uQ (bd:=λR S=>ax P.af H hq K aa h) p q b λd y J u w a b=>lM a λa0 a=>fi.Rows.mul_int db (IntMulOk.of_left (aoX (aC.b9.mp a0).1))
 |Mod=>exact uQ (bd:=λR S=>ax P.af H (cc .Mod R S) K aa h) p q b λd y J u w a b=>lM a λa0 a=>mod_int (az.fQ (c2 a0)) db
 |ff=>exact uQ (bd:=λR S=>ax P.af H (cc .ff R S) K aa h) p q b λd y J u w a b=>lM a λa0 a=>floordiv_int (az.fQ (c2 (aC.b9.mp a0).1)) db (.a4 (fi.noPylong_small (UN (aC.b9.mp a0).2)))
 |_=>exact bm b
end
end
mutual
section
open a8.b5
theorem lg.z6 ar aD cC dO dG:∃ob,a.Y n.1=f ob/\ob.a3≠ .aW "tuple":=by
 induction i with
 |a5 c g w=>obtain ⟨_,ag⟩:=c;exact ⟨_,ag,show D.aW "list"≠D.aW "tuple" by decide⟩
 |vH _ c g w=>obtain ⟨m,_,_,ag,cW,_⟩:=g;exact hr
 |uJ c g w=>obtain ⟨m,_,_,ag,cW,_⟩:=c;exact hr
 |oB c g=>exact ⟨_,c,show D.aW "zip"≠D.aW "tuple" by decide⟩
 |cX c g w b x=>
  refine ⟨_,c,?_⟩;unfold vO at g
  split at g
  ·rw[g.1];simp
  ·rw[g.1];simp
  ·rw[g];simp
theorem ai.bb ar a6 aD aQ bH dO(aN:e[o]?=f n):∃m,G[o]?=f m/\lg e a m n:=by
 have hlt:o<G.N:=by rw[<-t.bD];exact (l.dt.mp aN).1
 obtain ⟨k,aU,i⟩:=t.ro o G[o] (l.ch hlt);rw[aN] at aU;cases aU;exact ⟨_,l.ch hlt,i⟩
theorem ai.c0 ar a6 aD aQ bH bc cz hj(b:G[o]?=f gb):
  ∃c C,j= .aA c/\e[o]?=f cv/\ng a c C.ah/\V e a F C/\F.N<=bl:=by
 obtain ⟨n,rfl,aN⟩:=i.bt;obtain ⟨m,ag,ro⟩:=t.bb aN;rw[b] at ag;cases ag;cases ro with
 |a5 c g w=>exact ⟨_,_,rfl,aN,c,g,w⟩
mutual
section
variable {H:bo}{e:jV}{G:jE}{h:aL}{K:aC->aL->Prop}{aa:D->aL->Prop}
inductive uu:z->D->Prop
 |none:uu 1 .none
 |aP (A:az) (J:b6):uu 2 (.aP A J)
 |str (d:aF) (J:b6):uu 2 eT
 |aA (c:Z):uu 3 cG
 |other (v:D):uu 0 v
theorem s.cn aD hl cz(i:s e a c j):uu (Mine.Internal.cn c) j:=by induction i using s.d6<;>first|exact .none|exact .aP _ _|exact .str _ _|exact .aA _|exact .other _
theorem uu.bX{A T:z}{v j:D}(d:uu A v)(y:uu T j)(al:z.cb A T=false)(bA:z.cb (A*T) 0=false):plainIs v j=true/\(v==j)=false:=by induction d<;>induction y<;>first|exact ⟨rfl,rfl⟩|exact tf_ al|exact tf_ bA|exact tf_ ((z.zero_mul _▸bA:):z.cb 0 0=false)
theorem Pu dW g5 dX dY aX(i:s e h.Q dZ v):
  ∃c ob m,v= .aA c/\c≠64/\h.Q.Y c=f ob/\ob.a3≠ .aW "tuple"/\h.Q.Y 64=f m/\m.a3≠ .aW "tuple":=by
 obtain ⟨n,rfl,aN⟩:=i.bt;obtain ⟨o1,_,r1⟩:=t.bb aN;obtain ⟨TJ,au,n1⟩:=r1.z6;obtain ⟨asW,br,n64⟩:=br;exact ⟨_,_,_,rfl,λk=>bO ck (z.cr.aI (k▸t.b8 _ (t7 aN))),au,n1,t.ca _ _ br,n64⟩
theorem aor c9 bI aX e9 hs(a:K (z.cb B o) h):ax P.af H dc K aa h:=by
 obtain ⟨n,rfl,L⟩:=p.bt;obtain ⟨p',rfl,aj⟩:=q.bt;clear p q;cases bC:z.cb B o with
 |true=>cases z.eq_of_beq_eq_true bC;cases L.symm.aB aj;exact f3 ht
 |false=>obtain ⟨o1,_,r1⟩:=t.bb L;obtain ⟨o2,_,r2⟩:=t.bb aj;obtain ⟨TJ,au,n1⟩:=r1.z6;obtain ⟨Cv,ay,n2⟩:=r2.z6;exact ew (λk=>F6 t.nd L aj (z.ne_of_beq_eq_false bC) l.cp (k▸l.cp)) au ay n1 ht
theorem aon dW bI dX dY aX e9(q:s e h.Q hu S) dD:ax P.af H dc K aa h:=by obtain ⟨_,_,_,rfl,k,au,n1,ay,_⟩:=Pu br ck t p;exact q.uZ▸ew k au ay n1 a
theorem aoo dW bI dX dY aX(p:s e h.Q hu R) hv dD:ax P.af H dc K aa h:=by obtain ⟨_,_,_,rfl,k,au,_,ay,n2⟩:=Pu br ck t q;exact p.uZ▸ew (λaO=>k aO.symm) ay au n2 a
theorem Kw cF bI dd dX dY aX dT dU(b:qn c g=f k)(a:K k h):ax P.af H dc K aa h:=
 akh (bd:=λc g k=>s e h.Q c R->s e h.Q g S->K k h->ax P.af H dc K aa h) b
  (λaT bA p q a=>f2 (p.cn.bX q.cn aT bA).1 ((p.cn.bX q.cn aT bA).2.symm▸a))
  (λp q a=>p.z9.symm▸q.z9.symm▸(f2 rfl a:ax P.af H (ej .none .none) K aa h))
  (λB o p q a=>aor t p q a)
  (λB p q a=>aon br ck t p q a) (λB p q a=>aoo br ck t p q a)
  (λp q a=>p.uZ.symm▸q.uZ.symm▸(f3 a:ax P.af H (ej hw hw) K aa h)) p q a
end
end
mutual
section
open a8.b5 a8.SeqAt
theorem am1 ar g2 c9 g3(L:e[B]?=f n)(aj:e[o]?=f k)(b:n.1=k.1):B=o:=by
 by_cases a:B=o
 ·exact a
 ·exact bO (by rw[b];exact l.cp) (F6 nd L aj a l.cp)
theorem aj9 aD bJ hx(d:dg a c C)(y:dg a c O):C=O:=by obtain ⟨m,ag,_,o,bi⟩:=d;obtain ⟨o',b4,_,n',b3⟩:=y;rw[ag] at b4;clear xζ2;cases b4;rw[bi] at b3;cases b3;rfl
theorem asH aD bJ hx(d:a.bL c C)(y:a.bL c O):C=O:=by obtain ⟨m,ag,_,o,bi⟩:=d;obtain ⟨o',b4,_,n',b3⟩:=y;rw[ag] at b4;clear xζ2;cases b4;rw[bi] at b3;cases b3;rfl
mutual
section
variable {e:jV}{a:am}{B:l ab}{O:l D}{j:D}
theorem V.aqE(i:V e a B (j::O)):∃g m',B=g::m'/\s e a g j/\V e a m' O:=by
 cases i with
 |aZ c g=>exact hk
theorem V.end'(i:V e a B []):B=[]:=by cases i;rfl
theorem QN hy(ih:∀c g j k,s e a c j->s e a g j->x c g=f k->k=true) bc dd hz(y:V e a B O)(b:o_ x F B=f k):k=true:=
 d.ind (k:=λF O=>∀B k,V e a B O->o_ x F B=f k->k=true)
  (λB k y b=>by cases y.end';exact (as.f.aH b).symm)
  (λc r A B k y b=>JP b (λb r=>nomatch y.aqE.fs.fs.1.symm.aB b) λg J n i au al an ay=>by
   clear b;cases au;cases y with
   |aZ y1 y2=>rw[ay,ih _ _ _ _ c y1 al,A _ _ y2 an];rfl) B k y b
theorem Tu bH(p:s e a .none j) hA:False:=by obtain ⟨n,b,_⟩:=q.bt;cases p.z9.symm.aB b
theorem ajX hC(p:s e a e7 j)(q:s e a hD j):d=y:=by obtain ⟨J,rfl⟩:=p.bW;obtain ⟨u,b⟩:=q.bW;clear q;cases b;rfl
theorem apu hE(p:s e a dC j)(q:s e a hF j):d=y:=by obtain ⟨J,rfl⟩:=p.c1;obtain ⟨u,b⟩:=q.c1;clear q;cases b;rfl
theorem aqf e_(p:s e a hG j)(q:s e a hH j):∃O,V e a d O/\V e a y O:=by obtain ⟨c,C,rfl,_,J,i⟩:=p.sF;obtain ⟨a',vs',b,_,t',r'⟩:=q.sF;clear xζ3;cases b;cases bp.fW.aI (aj9 J t');exact ⟨_,i,r'⟩
end
mutual
section
variable {e:jV}{G:jE}{a:am}{j:D}
theorem TL c9 aQ(p:s e a dZ j) hA:B=o:=by obtain ⟨n,rfl,aN⟩:=p.bt;obtain ⟨p',b,mP⟩:=q.bt;exact am1 t.nd aN mP (D.aA.aH b)
theorem aib aQ fa:∀fb (j:D) fc,s e a c j->s e a g j->eqv G x c g=f k->k=true:=by
 induction x with
 |cu=>exact λc g j k p q b=>bm b
 |bF x ih=>
  exact λc g j k p q b=>JS (bd:=λc g k=>s e a c j->s e a g j->k=true) b (λr r=>rfl) (λd y p q=>cR (ajX p q)) (λd y p q=>n8.aI (apu p q))
   (λd y k b p q=>(aqf p q).a_ λr i=>QN ih i.1 i.2 b)
   (λB o d y k al an r b p q=>by cases TL t p q;clear r;cases al.symm.aB an;obtain ⟨_,_,_,_,_,i,_⟩:=t.c0 p al;exact QN ih i i b)
   (λB o d y al an ad p q=>bO (ce l.N (ko.a5.aH (as.f.aH (al.symm.aB (TL t p q▸an))))) ad)
   (λo y r p q=>(Tu p q).a_) (λo y r p q=>(Tu q p).a_) p q
end
theorem ahY hy bc:∀{B:l ab} dd,o_ x F B=f k->∃b:z->aC,(∀T c g,F[T]?=f c->B[T]?=f g->x c g=f (b T))/\k=((l.range (min F.N B.N)).all b&&F.N==B.N):=by
 induction F with
 |aR=>
  intro B k a;refine ⟨λr=>true,λT c g b=>(nomatch b),(as.f.aH a).symm.aB ?_⟩;cases B with
  |aR=>rfl
  |aZ g B=>rw[l.fH,z.zero_min];rfl
 |aZ c F ih=>
  refine λ{B k} a=>JP a (λau ay=>⟨λr=>true,λT c g r b=>(nomatch (au▸b:([]:l ab)[T]?=f g)),?_⟩) λg J n i au al an ay=>(ih an).a_ λb bs=>⟨λT=>T.d6 n b,λT a' b'=>?_,?_⟩
  ·rw[au,ay,l.fH,z.min_zero];rfl
  ·rw[au];exact T.d6 (λad L=>as.f.aH ad▸as.f.aH L▸al) λT=>bs.1 T a' b'
  ·rw[ay,bs.2,au,l.fG,l.fG,z.succ_min_succ,l.range_succ_eq_map,l.all_cons,l.all_map,aC.and_assoc];exact ce (λaO=>n&&(_&&aO)) (aC.fw.aI ⟨λaO=>dk.aI (ce z.bF f6),λaO=>dk.aI (z.bF.aH f6)⟩)
theorem V.et ar aD bc b2 hz(T:z)(fz:T<O.ah.ap):∃v,F[T]?=f v/\s e a v O.ah[T]:=by have hj':T<F.N:=d.N▸fz;obtain ⟨j,fA,i⟩:=d.bT T F[T] (l.ch hj');obtain ⟨_,rfl⟩:=l.dt.mp fA;exact ⟨F[T],l.ch hj',i⟩
structure r5(H:bo)(h:aL)(y d:D)(k:aC):Prop where
 fv:EqAt H h y d k
 rc:cK H h y d k
 ne:cL H h y d (!k)
theorem QT ar bw bG a6{x:z}{F B:l ab}{C O:l D} dd ey(ih:∀f7 fb f8 fc,H.b0+x<bR->s e h.Q c R->s e h.Q g S->eqv G x c g=f k->r5 H h R S k)
  (bz:V e h.Q F C)(lK:V e h.Q B O)(b:o_ ez F B=f k):
  ∃uK:z->aC,(∀T (al:T<C.ah.ap) (an:T<O.ah.ap),EqAt H.in1 h C.ah[T] O.ah[T] (uK T))/\k=((l.range (min C.ah.ap O.ah.ap)).all uK&&C.ah.ap==O.ah.ap):=by
 obtain ⟨uK,bs,aU⟩:=ahY b;refine ⟨uK,λT al an=>?_,by rw[aU,bz.N,lK.N];rfl⟩;obtain ⟨v,v1,v2⟩:=bz.et T al;obtain ⟨j,w1,w2⟩:=lK.et T an;exact (ih _ _ _ _ _ _ xB v2 w2 (bs T v j v1 w1)).fv
theorem r5.dy bG bw{c g:Z} dd(self:c=g->k=true)(rc:cK H h cG eA k)(ne:cL H h cG eA (!k)):r5 H h cG eA k:=by
 refine ⟨?_,rc,ne⟩;by_cases hab:c=g
 ·rw[self hab,hab];exact .bu _
 ·exact .of_refs hab rc
mutual
section
variable {e:jV}{G:jE}{h:aL}{H:bo}{x:z}{R S:D}{k:aC}
noncomputable def Oc cA gC eU fa:Prop:=∀f7 fb f8 fc,H.b0+x<bR->s e h.Q c R->s e h.Q g S->eqv G x c g=f k->r5 H h R S k
theorem ah5 hC(p:s e h.Q e7 R)(q:s e h.Q hD S):r5 H h R S (decide (d=y)):=by obtain ⟨J,rfl⟩:=p.bW;obtain ⟨u,rfl⟩:=q.bW;exact ⟨.eh _ _ _ _,.eh _ _ _ _,.eh _ _ _ _⟩
theorem ah6 hE(p:s e h.Q dC R)(q:s e h.Q hF S):r5 H h R S (j4 d y):=by obtain ⟨J,rfl⟩:=p.c1;obtain ⟨u,rfl⟩:=q.c1;rw[show j4 d y=(d==y) from aC.fw.aI (n8.aB dk.symm)];exact ⟨.eu _ _ _ _,.eu _ _ _ _,.eu _ _ _ _⟩
theorem ah7 e_ eB ey f_(p:s e h.Q hG R)(q:s e h.Q hH S)(b:o_ ez d y=f k) ga:r5 H h R S k:=by obtain ⟨c,C,rfl,_,bN,bz⟩:=p.sF;obtain ⟨g,O,rfl,_,bP,lK⟩:=q.sF;obtain ⟨uK,cl,ad⟩:=QT xB ih bz lK b;exact .dy eC (ad▸cK.fX bN bP aG cl) (ad▸cL.fX bN bP aG cl)
theorem QU c9 e_ eB ey f_ aX e9 hs gc(aj:G[o]?=f (.a5 y))
  (b:(d.N=y.N/\o_ ez d y=f k)\/(d.N≠y.N/\k=false)) ga:r5 H h R S k:=by
 obtain ⟨c,C,rfl,_,bQ,dl,_⟩:=t.c0 p L;obtain ⟨g,O,rfl,_,bS,dn,_⟩:=t.c0 q aj;clear p q L aj t;replace bQ:=bQ.bj;replace bS:=bS.bj;obtain ⟨W,b⟩|⟨W,b⟩:=b
 ·obtain ⟨uK,cl,ad⟩:=QT xB ih dl dn b;have hsz:C.ah.ap=O.ah.ap:=dl.N.symm.aB (W.aB dn.N);rw[<-hsz,z.min_self,beq_self_eq_true,aC.and_true] at ad;exact .dy eC (ad▸cK.lists bQ bS hsz aG cl) (ad▸cL.lists bQ bS hsz aG cl)
 ·have cm:(C.ah.ap !=O.ah.ap)=true:=bne_iff_ne.aI λa=>W (dl.N.aB (a.aB dn.N.symm));exact .dy eC (b▸cK.fJ bQ bS cm aG) (b▸cL.fJ bQ bS cm aG)
theorem QV dW{d:l ab} eB aX(p:s e h.Q .none R) hv gc:r5 H h R S false/\r5 H h S R false:=by obtain ⟨c,C,rfl,_,w,_⟩:=t.c0 q L;cases p.z9;exact ⟨⟨.es w.bj aG,.es w.bj aG,.es w.bj aG⟩,⟨.em w.bj aG,.em w.bj aG,.em w.bj aG⟩⟩
theorem EK aX fa:Oc e G h x:=by
 induction x with
 |cu=>exact λH c g R S k be p q b=>bm b
 |bF x ih=>
  intro H c g R S k be p q b;have aG:H.b0<bR:=z.fK (z.le_add_right _ _) be;have xB:H.in1.b0+x<bR:=by rw[bo.in1_units,z.add_assoc,z.add_comm 1];exact be
  exact JS (bd:=λc g k=>s e h.Q c R->s e h.Q g S->(R=S->k=true)->r5 H h R S k) b (λp q r=>p.z9.symm▸q.z9.symm▸⟨.bu .none,.fS,.fS⟩)
   (λd y p q r=>ah5 p q) (λd y p q r=>ah6 p q) (λd y k b p q self=>ah7 aG xB ih p q b self) (λB o d y k al an ad b p q self=>QU aG xB ih t p q al an (.a4 ⟨ad,b⟩) self)
   (λB o d y al an ad p q self=>QU aG xB ih t p q al an (.bf ⟨ad,rfl⟩) self) (λo y a p q r=>(QV aG t p q a).1) (λo y a p q r=>(QV aG t q p a).2)
   p q λa=>aib t (x+1) c g _ k p (a▸q) b
end
end
end
mutual
example _ h x e a List b q some o ρ y h' p s n f r z W k u v hb ζ A σ Nat i l as hs m g Q trans w e1 h1 ws hp ha hd j Value elim d c hk hn mp t E _ _ _ _ _ _ _ _ _ _ _ h2 heap ac env Heap Option e2 cons get? M T length map nil Str hx h₀ inj Bool «at» lookup size Addr he zip ρ' D hl mpr fs hy wpAny[(·.arg)]Obj Shared data hi kindOf own h3 names outer C wpAny_bind{s:e aw}{a l:ae}L X absurd b1 hm cell h5 one{j az:jV}Tame hB hz h₁{b:ao}N a1 slot[by omega]hl' a4 dk es fl hc ho objs{a:ae}(b:kK s j a az l){M:e R}R V hu inr{o:A}PySem hf hne{j:jV}Nodup a2 b2 «by» binds c1 filterMap globalImplicit hW hv if_neg mem_cons other vals{C:e jD}{g:as}Ext SameBut a3 drop hyx inl kept mem_cons_of_mem mem_cons_self mono push toks units{d:aw}[.cD c]G NameKind acc any atKey cls compareOp d1 e3 fields h4 if_pos mem_singleton not_lt not_mem_nil of_decide_eq_true wpAny_pure(Y:a3 s j a)[[d]](G:b0 j z n.ab)(a4:cn<=aq.bi.av)[{n with ab:=l}]Around Array B Env Fast P c2 eqv ey fd fin free globalExplicit hfr in1 length_append ns_ pure ref{z:jE}[by simp]{F:ao->af R}{B:A}(bo:y.bX+20<d6)[ao×R][(·.1)]{aP:e (ao×kN)}he' not_eq_true' Arg Calls SeqAt a5 at? bb bindC bindL congrArg d2 decide_eq_true eq_of_beq fn ft_ gl h7 hN hT hV hod ht le_refl nodup_cons refl{va vb:R}(ra:jG j n.ab d va){vs:cm R}[jF.set B (h v)](f:o6 s kM aq j z aD a)(bf:qg j z aq n.ab o c)[ad::aD]{D:e ao}[a8.ay M](b:ao)[.a_ B f][by decide]beq_eq_false_iff_ne «do» cw dict ex filter forIn fr h6 hD hS inst isNone take update wpAny_field[ao⊕Int]{aO:e (ao×b1)}{aL:ao->af b1}{be:e (jD×jD)}{i:af jD}{v:jD}[.d5 g][aa.symm▸a n.bW][af.h.ar a▸cv (tk:=n.bW) c](s:e aw)[⟨b.pre,b.av,b.bR⟩][ae.fI c][⟨i,bh,by rw[P];rfl⟩]{J:R}[ao×kN](cy:y.frames=h dh)(f:o6 s kM aq j z dh n.ab)(aB:D.al=M.al){α:Type}[b=k][[d.arg]](aP:e dR){f:as}IsCell Scope add_le_add_left apart append_nil bool cLine cameBackBy cellsFrom cl data_mapFields df eq_iff_iff filterMap_cons frame function get?_update_self h0 head hs₁ h₂ h₃ isKey isSome keep kind le_of_ble_eq_true le_trans length_set locals lookup_cons lt_of_le_of_lt mapFields map_eq_some_iff noConfusion plain rawInt same sameBut setIfInBounds slots succ toArray wpAny_setField yield(kd:b1){b k:ao}[lR aP aO o][.tup C]{xs:e (e dD×aw×R)}(c:pL be eL=h i){m:aw×af aw}[{n with bW:=tk}]{d:jD}(aA:q6 ak)(a:ae){s bn:e aw}[h v][lk aV k][h v'][(·.ed)][∃d∈C,jG j n.ab d k/\cs z 4 d b=h true][aH.fD rG][(aH.ev (·.eC 3 R.none))][M++[T]]{d f:jD}{a8:e ao}{p:A}{cu:FuncData}{D:e cO}{i:af (cm R)}{kd:e (af Expr)}{ea:e Expr}{H:e cJ->aI->Prop}(P:∀Q':af (cm R)->aI->Prop,Q' i n->aF aj y (seqItems? cu.defaults) Q' Z n)[bindArgs cu ⟨M,[]⟩][ce a]{kd:b1}(o:A)EntryCells Except ab all_eq_true and_eq_true beq_self_eq_true bi c0 cls_mapFields dt e4 eq extBut getElem?_eq_some_iff getElem?_set_ne getElem?_set_self hadNext hw i1 i2 id in_dict isCoroutine isEmpty isFreed_of_fields isGenerator isList leaving length_map lt_size mem_filterMap newEntry nodup_append not_or noteFrame notedBy of_decide_eq_false params sEq_iff setFlight toList tupleKind zip_append{b:jD}[(b,kd)::q][o+w1 kd][⟨o,rfl,A.c9 _,A.lt_succ_self o⟩][⟨rfl,rfl⟩]{b k:e dD}{v:α}{q:e (ao×α)}[b==k][(k,v)::q](a:lk eK b=h dl)[.a_ B b'][(m.1,o)::b2]{q:e cJ}[e.bG.aC g]{bz:e cJ}[λc=>?_][λg=>nd.1 (show m.1∈_ from (cW Prod.fst c:b=m.1)▸g)]{bm:Type}{aV:e dR}{jF:jL}{t:jL->aj bm}{q:fg jD bm×jE}{t k':e dD}{m:aw×R}[(k',m)::xs][.dq be][KZ aQ.prog aQ.J](G:b0 j z a)[t7 N](c:uP z d C=h g)(rb:jG j n.ab (.obj o) vb)[E.symm▸a _](rb:jG j n.ab f vb)[cv (tk:=n.bW) aa][aN.2▸cv (tk:=n.bW) aa](i:aH)(b:bL j a az l)[⟨_,e',rfl,λx=>rfl⟩](j:jV){f:aw}{i:aH}(c:a.ai f=h i)(w:f∉aM j)[∀J∈M,∃v∈C,jG j a v J][c6 f g][∀v∈C,∃J∈M,jG j a v J][d'.symm.I g](E:ae.bM d a l)[λr=>⟨_,e.bT,r▸d⟩][⟨[],by simp,by simp [aM]⟩](c:uP z b C=h g){u:af R}[lk aV b]{l:ae}[[ad.es]][⟨o2,ag,.low (cX.I b7.symm) ba⟩][G.a1 E t1 x1]{y:cl}[ao×jD][(c,h T)](N:j[o]?=h gT)[.dy 39 bf](a5:1<vs.av)[r▸bh](f:o6 s kM aq j z aD n.ab)[dC ax P g ?_][dC ax P kE ?_][show (R.cD ak !=R.none)=true from by simp][(·.eC 3 (du.S R.none λp=>ez p))][(aH.ev g2)][r▸t7 N][f.tb a4 kJ nB E xV q5 J8 rG](a:∀l,o6 s kM aq j z dh l->qg j z aq l o c->OQ l c->H () ck)[(·.eC 1 (R.cD a6.bi.av))][(aH.ev g7)][(·.eC 3 R.none)]{o:ao}[o==d]{α β:Type}{T:R}(aB:a8.al=M.al)[λo=>((a8.ay M).au o).dz]{C:e ao}[p+1](N:cu.fQ=⟨[],D,none,[],kd,none,ea⟩)[aA.al -a8.al][a8.al -(aA.bO hi).al][cf ?_][1 -_][_ -(e.bO hl _).al][_ -1][ao×α]{ps:e cO}[lk aP b][λx x x a=>cB a]{g:kN}[ao×b1](q:e ht)bs co dp ep:True:=x
mutual
section
open br.cP br.cQ
theorem ajM cE fW bJ bK gK:(∀d∈C,∃m,cs z 4 d b=h m)/\(g=true↔∃d∈C,cs z 4 d b=h true):=by
 induction C generalizing g with
 |an=>cases c;exact ⟨λx r=>(e.cd r).S,λr=>as.ex r,λr=>r.S λx r=>(e.cd r.1).S⟩
 |ah d C ih=>refine jZ c λm L c=>jZ c λq' aa c=>⟨λf w=>(e.bG.X w).S (λr=>⟨m,r▸L⟩) ((ih aa).1 f),?_⟩;refine af.h.ar c▸as.or_eq_true_iff.I ⟨λr=>r.S (λr=>⟨d,e.bT,r▸L⟩) λr=>((ih aa).2.X r).S λf w=>⟨f,e.bS _ w.1,w.2⟩,λr=>r.S λf w=>?_⟩;exact (e.bG.X w.1).S (λr=> .bQ (af.h.ar (L.symm.I (r▸w.2)))) λr=> .bp ((ih aa).2.aC ⟨f,r,w.2⟩)
theorem jR.mem bu bj bJ bl(q:jR j a C M):gD/\gF:=
 q.ind (g:=λC M=>gD/\gF) ⟨λx r=>(e.cd r).S,λx r=>(e.cd r).S⟩
  λd x B=>⟨λJ fw=>(e.bG.X fw).S gI λr=>(B.1 J r).S λv t=>⟨v,e.bS _ t.1,t.2⟩,
   λv bE=>(e.bG.X bE).S gI λr=>(B.2 v r).S λJ t=>⟨J,e.bS _ t.1,t.2⟩⟩
open Classical in
theorem RU bu cE{n:aI} ci gR fW{vx:R} bJ bl bK cI(rx:jG j n.ab b vx)
  (rl:jR j n.ab C M) gK:∃p:R->as,(∀k,k∈M.eF->EqAt y.cz n k vx (p k))/\M.eF.b3 p=g:=by
 obtain ⟨fx,fy⟩:=ajM c;have vL:y.cz.bX+4<d6:=A.eu (A.d2 (A.ep rfl:5<=20) y.bX:y.bX+1+4<=y.bX+20) bo;refine ⟨λk=>decide eY,λk aE=>?_,as.eb.aC (cm.any_eq_true.I (Iff.I ⟨λr=>?_,λr=>?_⟩ fy.symm))⟩
 ·show EqAt y.cz n k vx (decide eY);cases a:decide eY with
  |true=>exact (ce a).S λd t=>(EK G 4 y.cz d b k vx true vL t.2.1 rx t.2.2).fq
  |false=>
   refine (rl.mem.1 k (e.mem_toArray.X aE)).S λd t=>(fx d t.1).S λm N=>?_;cases m with
   |true=>exact aW ⟨d,t.1,t.2,N⟩ (fP a)
   |false=>exact (EK G 4 y.cz d b k vx false vL t.2 rx N).fq
 ·exact r.S λB r=>r.S λaK P=>(ce P).S λd t=>⟨d,t.1,t.2.2⟩
 ·exact r.S λd t=>(rl.mem.2 d t.1).S λJ F=>(e.getElem_of_mem F.1).S λB aK=>aK.S λaK bE=>⟨B,aK,cY ⟨d,t.1,bE▸F.2,t.2⟩⟩
theorem ako e2{b k:ao⊕Int} e4 bK(O:tQ d=h b)(w:tQ f=h k)(c:cs [] hg d f=h g):g=decide dW:=
 JS (cq:=λd f g=>tQ d=h b->tQ f=h k->g=decide dW) c (λa=>cB a)
  (λB Q a t=>af.h.ar a▸af.h.ar t▸decide_eq_decide.aC ⟨λa=>cW _ a,λa=>Sum.bp.ar a⟩)
  (λB Q a t=>af.h.ar a▸af.h.ar t▸as.eb.aC (n8.I ⟨λa=>cY (cW _ a),λa=>Sum.bQ.ar fc⟩))
  (λx x x x a=>cB a) (λx x x x x x x x x a=>cB a) (λx x x x x x x a=>cB a) hr hr O w
theorem akm e4 bJ:∀{F:e jD} f1 bK,qa C=h b->qa F=h k->o_ (cs [] hg) C F=h g->g=decide dW:=by
 induction C with
 |an=>
  intro F b k g ap aE c;cases ap;cases F with
  |an=>cases aE;cases c;rfl
  |ah f F=>obtain ⟨r,zs,_,_,rfl⟩:=Fo aE;cases c;rfl
 |ah d C ih=>
  intro F b k g ap aE c;obtain ⟨u,us,L,aa,rfl⟩:=Fo ap;refine JP c (λK ag=>?_) λf Y m q K a0 dv ag=>?_
  ·clear c;cases K;cases aE;exact ag
  ·clear c;cases K;obtain ⟨v,vs,aN,b_,rfl⟩:=Fo aE;rw[ag,ako L aN a0,ih aa b_ dv];exact as.eb.aC (as.and_eq_true_iff.I ⟨λa=>cY (e.cons_eq_cons.aC ⟨ce a.1,ce a.2⟩),λa=>⟨cY (e.ah.ar fc).1,cY (e.ah.ar fc).2⟩⟩)
theorem Fp e4{C F:e jD} f1 bK(ap:qa C=h b)(aE:qa F=h k)(c:cs [] (p+2) eL (.tup F)=h g):g=decide dW:=akm ap aE c
theorem PF gi gj eM(a:k'=t):b4 gk t=h m:=by simp [b4,a]
theorem PE gi gj eM(a:k'≠t):b4 gk t=b4 xs t:=by simp [b4,a]
theorem Q6 bu bj bJ{t:e dD}(V:qa C=h t) dG eM dH(ke:KE j a be xs) eN:
  (∀v,i=h v->∃m,b4 xs t=h m/\jG j a v m.2)/\(b4 xs t).em=i.em:=by
 induction ke with
 |an=>cases c;exact ⟨λx c=>(nomatch c),rfl⟩
 |@ah l' k' d v J be xs L aa aN b_ ih=>
  refine Q8 c (λg c=>?_) λg c=>?_
  ·have O:=PF (m:=(d,J)) (xs:=xs) (ce (Fp L V g).symm);rw[c,O];exact ⟨λv c=>⟨_,rfl,af.h.ar c▸aN⟩,rfl⟩
  ·rw[PE (fP (Fp L V g).symm)];exact ih c
theorem Fb dI(a:el v=true):∃C t,v= .tup C/\qa C=h t:=by
 cases v with
 |tup C=>exact (af.isSome_iff_exists.X a).S λt V=>⟨C,t,rfl,V⟩
 |_=>exact c1 a
theorem Q7 dG bJ dH(eg:be≠[])(a:∀c∈be,∃n,c.1= .str n) eN:False:=by
 cases be with
 |an=>exact eg rfl
 |ah d q=>obtain ⟨t,v⟩:=d;obtain ⟨n,E⟩:=a _ e.bT;clear eg a;cases (E:t= .str n);exact cB c
theorem lg.keyed bu bj dG eO bJ dH(q:lg j a gl m) eN:∃xs,a.DictOfH (fU gm) m.1 xs/\KE j a be xs:=by
 cases q with
 |vH fm bA _ _=>exact (Q7 fm bA c).S
 |uJ bA cr _=>exact ⟨_,bA,cr⟩
theorem K9 bu cE bj(a4:64<cn) gn bq eO(N:j[o]?=h m):(m.1==sysModules)=false:=by have:=G.fh _ go;rw[dn];intro g;have q':m.1=1:=g;rw[q'] at this;exact aW a4 (A.cc.aC (A.eq this dm))
mutual
section
variable {y:cl}{bm:Type}{ak:Tb}{j:jV}{z:jE}{n:aI}{q:fg jD bm×jE}{t:jD->aj bm}{H Z:R->aI->Prop}
structure DM(y:cl)(n:aI)(Z:R->aI->Prop)(va vb:R)(g:as):Prop where
 yes:∀H:R->aI->Prop,(∀tk,H dJ eP)->aF aQ.aj y (b6 .In va vb) H Z n
 no:∀H:R->aI->Prop,(∀tk,H (.d5 (!g)) eP)->aF aQ.aj y (b6 .NotIn va vb) H Z n
theorem ajT eQ db bK bJ cI ci dc(rb:jG j n.ab eL vb) gp:DM y n Z va vb g:=by obtain ⟨_,_,rfl,_,Y,q⟩:=rb.sF;obtain ⟨p,L,aa⟩:=RU G (y:=y) bo ra q c;exact ⟨λH a=>in_tupleAt p Y L dK,λH a=>notIn_tupleAt p Y L dK⟩
theorem ajR eQ db bK bq bJ cI ci dc gq(aB:z[o]?=h (.list C)) gp:DM y n Z va vb g:=by obtain ⟨_,_,rfl,_,Y,q,_⟩:=G.lst rb aB;obtain ⟨p,L,aa⟩:=RU G (y:=y) bo ra q c;exact ⟨λH a=>in_listAt p Y.fF L dK,λH a=>notIn_listAt p Y.fF L dK⟩
theorem fA eQ db bq dG dH eR cI ci dc gq(aB:z[o]?=h gl)(V:el d=true)(c:pL be d=h i):DM y n Z va vb i.em:=by obtain ⟨C,t,rfl,hl2⟩:=Fb V;obtain ⟨m,rfl,N⟩:=rb.ofObj;obtain ⟨ob,bh,ro⟩:=G.obj N;cases aB.symm.I bh;obtain ⟨xs,bA,cr⟩:=ro.keyed c;obtain ⟨f,vs,rfl,aX,bx,lK⟩:=ra.sF;have key:=jG.el hl2 ra;have room:(fU gm).room y.cz:=A.eu (A.d2 (A.ep rfl:1<=20) y.bX) bo;have E:=(Q6 hl2 cr c).2;have ns:=K9 aA.yX G N;exact ⟨λH a=>wpAny_in_heap room key ns bA gr,λH a=>wpAny_notIn_heap room key ns bA gr⟩
theorem RX e2 db bK eR cI ci dc gs(c:zK z d f=h g):DM y n Z va vb g:=by
 unfold zK at c;cases c8:tC f with
 |h C=>rw[c8] at c;exact ajT bo G ra (By c8▸rb) c
 |none=>
  rw[c8] at c;refine jZ c λo W K=>?_;rw[qj W] at rb;clear c c8;unfold tO at K;cases aB:l_ z o with
  |h C=>rw[aB] at K;exact ajR bo G ra rb (qz aB) K
  |none=>rw[aB] at K;exact jZ K λbe P ag=>lM ag λV b8=>jZ b8 λi bs fp=>af.h.ar fp▸fA aA bo G ra rb (EF P) V bs
theorem ao2{op:CmpOp} e2 db eR cI ci dc gs(c:bnd (jN op d f) (λg=>t dJ) z=h q)
  (m:Post q t (jG) j n H):aF aQ.aj y (b6 op va vb) H Z n:=by
 have cv:∀bK {tk:A},t dJ z=h q->H dJ eP:=λa=>m _ _ j z n.ab _ (.da _ _) G (.d5 _) a;clear m;have RL:y.bX+4<d6:=A.eu (A.d2 (A.ep rfl:4<=20) y.bX) bo;cases op with
 |Eq=>exact nR c λg L aa=>(EK G 4 y d f va vb g RL ra rb L).rc _ _ _ _ gt
 |NotEq=>exact nR c λg L aa=>(af.ew.X L).S λq' aN=>(EK G 4 y d f va vb q' RL ra rb aN.1).ne _ _ _ _ gu
 |Is=>exact nR c λg L aa=>aR (Kw aA.h64 aA.yX G ra rb L (cf gt))
 |IsNot=>exact nR c λg L aa=>(af.ew.X L).S λq' aN=>aR (Kw aA.h64 aA.yX G ra rb aN.1 (cf gu))
 |Lt=>exact uQ (cq:=λva vb=>aF aQ.aj y (b6 .Lt va vb) H Z n) ra rb c λb k Y u U a c=>lt_int dL
 |LtE=>exact uQ (cq:=λva vb=>aF aQ.aj y (b6 .LtE va vb) H Z n) ra rb c λb k Y u U a c=>le_int dL
 |Gt=>exact uQ (cq:=λva vb=>aF aQ.aj y (b6 .Gt va vb) H Z n) ra rb c λb k Y u U a c=>gt_int dL
 |GtE=>exact uQ (cq:=λva vb=>aF aQ.aj y (b6 .GtE va vb) H Z n) ra rb c λb k Y u U a c=>ge_int dL
 |In=>exact nR c λg L aa=>(RX aA bo G ra rb L).yes _ λtk=>cv aa
 |NotIn=>exact nR c λg L aa=>(af.ew.X L).S λq' aN=>(RX aA bo G ra rb aN.1).no _ λtk=>aN.2▸cv aa
end
end
mutual
section
open br.cP br.cQ
noncomputable def q9(o' i:aH):Prop:=bd o'.aJ=bd i.aJ/\(bd i.aJ=3->o'.b5=i.b5)
theorem q9.da gv:q9 i i:=⟨rfl,λx=>rfl⟩
theorem q9.I{d f U:aH}(b:q9 d f)(k:q9 f U):q9 d U:=⟨b.1.I k.1,λg=>(b.2 (k.1.I g)).I (k.2 g)⟩
theorem q9.low{d f:aH}(b:bd d.aJ=bd f.aJ)(g:bd f.aJ<3):q9 d f:=⟨b,λr=>ba⟩
structure kK(s:e aw)(j:jV)(a:ae)(az:jV)(l:ae):Prop where
 pre:∃τ,az=j++τ/\∀d∈aM τ,a.bi.av<=d
 av:a.bi.av<=l.bi.av
 bR:∀f i,a.ai f=h i->f∉aM j->f∉s->Kept l f i
 typ:∀f i,a.ai f=h i->f∉aM j->f∈s->∃o',l.ai f=h o'/\q9 o' i
theorem kK.en aS a2 aT bk:∀f i,a.ai f=h i->f∉aM j->f∉s->∃sl,l.ai f=h {i with eD:=sl}:=λf i c w bD=>(b.bR f i c w bD).get
theorem bL.J a2 aT gw dM:kK s j a az l:=
 ⟨b.pre,b.av,λf i c w x=>b.en.2 f i c w,λx x c w x=>let ⟨_,e'⟩:=b.get c w;gx⟩
theorem kK.da dM gy eS:kK s j a j a:=(bL.da j a).J s
theorem kK.b3 aS a2 aT bk gz gA gB gC:∃o',l.ai f=h o'/\q9 o' i:=by
 by_cases g:f∈s
 ·exact b.typ f i c w g
 ·obtain ⟨_,e'⟩:=b.en f i c w g;exact gx
theorem kK.pP aS a2 aT bk gz gA gB gC:f∉aM az:=mY.pP (bn:=s) dN c w
theorem kK.I aS{qu VX VY:jV}{a6 ej ek:ae}(b:kK s qu a6 VX ej)(k:kK s VX ej VY ek):kK s qu a6 VY ek:=
 let r:=mY.I (bn:=s) dN ⟨k.pre,k.av,k.bR⟩
 ⟨r.pre,r.av,r.bR,λf i c w bD=>(b.typ f i c w bD).S λo' T=>(k.typ f o' T.1 (b.pP c w) bD).imp λasV d'=>⟨d'.1,d'.2.I T.2⟩⟩
theorem kK.bU eT a2 aT bk(c6:∀d∈s,d∈bn):kK bn j a az l:=
 ⟨b.pre,b.av,λf i c w bD=>b.bR f i c w λg=>bD gE,λx x c w x=>b.b3 c w⟩
theorem kK.old eT a2 aT bk(c6:∀d∈s,d<a.bi.av->d∈bn):kK bn j a az l:=
 ⟨b.pre,b.av,λf i c w bD=>b.bR f i c w λg=>bD (c6 f g dO),λx x c w x=>b.b3 c w⟩
theorem kK.ext aS a2 aT bk(c6:∀d∈s,a.bi.av<=d):bL j a az l:=
 ⟨b.pre,b.av,λf i c w=>b.bR f i c w λg=>aW dO (A.cc.aC gE)⟩
theorem kK.pR aS a2 aT bk bq eO(c:j[o]?=h m):az[o]?=h m:=mY.pR (bn:=s) dN c
noncomputable def a3 dM gy eS:Prop:=∀f∈s,cn<=f/\f∉aM j/\∃i,a.ai f=h i/\(bd i.aJ=3->i.b5= .type "list")
theorem a3.lV eT a2 aT cg(b:kK bn j a az l):a3 s az l:=λf w=>
by obtain ⟨r,d,i,c,T⟩:=Y f w;obtain ⟨o',e',d',c'⟩:=b.b3 c d;exact ⟨r,b.pP c d,o',e',λg=>(c' gG).I (T gG)⟩
theorem a3.ext aS a2 aT cg gw:a3 s az l:=Y.lV (b.J [])
theorem Ky bj bY dd(Y:IsTup a d vs):∃i,a.ai d=h i/\bd i.aJ=3:=let ⟨i,bh,_,o,P⟩:=Y;dP
theorem asG bj bY dd(Y:a.IsList d vs):∃i,a.ai d=h i/\bd i.aJ=3:=let ⟨i,bh,_,o,P⟩:=Y;dP
theorem a3.z6 aS bu bj cg bY dd(b:IsTup a d vs):d∉s:=λg=>by obtain ⟨_,_,o',e',d'⟩:=Y d g;obtain ⟨i,c,bg,o,P⟩:=b;rw[c] at e';cases e';have:=d' (by rw[P];rfl);rw[bg] at this;exact aW this dm
theorem a3.asU aS bu bj cg bY(b:d<cn):d∉s:=λg=>aW b (A.cc.aC (Y d g).1)
theorem a3.tU aS bu bj cg:pY s a:=λf w=>⟨(Y f w).1,λx b=>Y.z6 b w⟩
theorem kK.v aS a2 aT bk:mY s j a az l:=dN
theorem jG.lV aS a2 aT cg bk dI dQ(q:jG j a v J):jG az l v J:=q.mv Y.tU b.v.mv
theorem jR.lV aS a2 aT cg bk{v:e jD}{J:e R}(q:jR j a v J):jR az l v J:=q.mv Y.tU b.v.mv
theorem pW.lV aS a2 aT{ad:co}(p:pW j a ad) bk:pW az l ad:=by obtain ⟨d,aU,i,f,U,T,c,p⟩:=p;obtain ⟨o',e',d'⟩:=b.b3 c T;exact ⟨d,aU,o',f,U,b.pP c T,e',d'.1.I p⟩
theorem kR.lV aS bq gR a2 aT(q:kR o y j a) bk:kR o y az l:=
 let ⟨aD,d,f⟩:=q.du
 ⟨q.P,q.hx,q.un,aD,d,λad ax=>(f ad ax).lV b⟩
theorem kK.a1 aS bu aT bY gH(O:d∈s)(V:∀i,a.ai d=h i->∃o',l.ai d=h o'/\q9 o' i):kK s j a j l:=
 ⟨gJ,by rw[E.1];exact A.c9 _,λf i c x w=> .eA ((E.2 f λg=>w (g▸O)).I c),λf i c x x=>by
  by_cases g:f=d
  ·clear E O;subst g;exact V i c
  ·exact ⟨i,(E.2 f g).I c,.da i⟩⟩
theorem b0.a1 bu cE aT bY gn gH(Y:a3 ch j a)(b:kK ch j a j l):b0 j z l:=by
 have O:d∉aM j:=(Y d cF).2.1;have a4:cn<=d:=(Y d cF).1;refine ⟨λf i c=>(E.2 f ?_).I (G.base f i c),A.eq G.hv b.av,G.len,G.nd,G.fh,λo i c=>?_⟩
 ·rintro rfl;exact aW dO (A.cc.aC a4)
 ·exact (G.ro o i c).imp λm T=>⟨T.1,T.2.mv Y.tU b.v.mv λf w=>E.2 f λg=>O (g▸Ls T.1 w)⟩
theorem qT bj bY cG(Y:a.Ns d F):∃i,a.ai d=h i/\bd i.aJ=0:=let ⟨i,be,hy,bh,P,_⟩:=Y;dP
theorem zL bj bY gL(Y:a.d0 d u):∃i,a.ai d=h i/\bd i.aJ=1:=let ⟨i,bh,P⟩:=Y;dP
theorem Tw bj{d f:aw} cG gL(b:a.Ns d F)(k:a.d0 f u):d≠f:=λg=>by obtain ⟨i,c,T⟩:=qT b;obtain ⟨o',e',d'⟩:=zL k;clear k;subst g;rw[c] at e';cases e';omega
mutual
section
variable {y:cl}{ad:co}{aV:e dR}{jF:jL}{j:jV}{z:jE}{n:aI}{s:e aw}{Z:R->aI->Prop}
noncomputable def sZ dM(a l:ae):Prop:=∀f i,a.ai f=h i->f∉s->l.ai f=h i
theorem sZ.I aS{a l h'':ae}(b:sZ s a l)(k:sZ s l h''):sZ s a h'':=λf i c w=>k f i (b f i c w) w
theorem FR.store a7 cH{cT:as} dI dQ{H:Unit->aI->Prop}(p:FR s aV ad jF j n.ab)(Y:a3 s j n.ab) ci(ap:lk aV b=h (.a_ B cT))(rv:jG j n.ab v J)
  (a:∀l tk,sZ s n.ab l->kK s j n.ab j l->b0 j z l->FR s aV ad de j l->H () {n with ab:=l,bW:=tk}):aF aQ.aj y (storeName ad b J) H Z n:=by
 obtain ⟨F,aY,bE⟩:=p.ns;have aK:B<jF.al:=p.lt b B (by rw[ap];rfl);have hi?:kN.cS gM=h B:=by rw[ap];rfl
 have bH:∀k Q v',kN.cS eV=h Q->k≠b->de[Q]?=h eW->jF[Q]?=h eW:=by intro k Q v' aE bt c;rw[e.ft (λg=>bt (p.ar k b Q aE (by rw[hi?,g])))] at c;exact c
 have self:∀Q v',kN.cS gM=h Q->de[Q]?=h eW->v'=v:=by intro Q v' aE c;rw[hi?] at aE;cases aE;rw[e.fu aK] at c;cases c;rfl
 rcases p.a_ b B cT ap with V|V
 ·have a1:∀gN {m'},l.Ns ad.es m'->ae.bM ad.es n.ab l->kK gO j n.ab j l:=λW E=> .a1 E cF λi c=>by
   obtain ⟨o1,K,b7⟩:=qT aY;obtain ⟨o2,ag,cX⟩:=qT W;rw[c] at K;cases K;exact gP
  have t1:a3 gO j n.ab:=λf w=>by rw[e.cb] at w;subst w;obtain ⟨o1,K,b7⟩:=qT aY;exact ⟨p.low.1,p.low.2.1,o1,K,λg=>ba⟩
  refine wpAny_storeName_local V aY (λl W E=>?_) (by rw[p.c0];rfl);have x1:=a1 W E;refine a l (n.bW+1) (λf i c w=>E.fr f i (λg=>w (g▸p.low.2.2)) c) (x1.bU λd O=>by rw[e.cb] at O;subst O;exact p.low.2.2) gQ ⟨p.c0,p.c2,p.fl,p.ey,p.glob,p.vR,p.out,λk Q c=>by rw[e.er];exact p.lt k Q c,p.ar,
   ⟨_,W,λk Q b' v' K ag b8=>?_⟩,λk Q K ag=>?_,p.d3,p.low,p.dp⟩
  ·have aE:kN.cS eV=h Q:=by rw[K];rfl
   by_cases bP:k=b
   ·clear ap bH V W;subst bP;rw[self Q v' aE b8];exact ⟨J,by simp,rv.lV t1 x1⟩
   ·obtain ⟨w',d,f⟩:=bE k Q _ v' K ag (bH k Q v' aE bP b8);exact ⟨w',by simp [bP,d],f.lV t1 x1⟩
  ·obtain ⟨U,u,a9,bw,bN,bc,cR⟩:=p.d9 k Q K ag;have bt:k≠b:=λg=>by clear ap bH self W;subst g;rw[V] at ag;rcases ag with ag|ag<;>cases ag
   refine ⟨U,u,a9,bw,bN,bc.eB E (Tw aY bc).symm,λv' c=>?_⟩;obtain ⟨w',aX,bx⟩:=cR v' (bH k Q v' K bt c);exact ⟨w',aX,bx.lV t1 x1⟩
 ·obtain ⟨U,u,a9,bw,bN,bc,cR⟩:=p.d9 b B hi? (.bQ V);have a1:∀gN {u'},l.d0 U u'->ae.bM U n.ab l->kK [U] j n.ab j l:=λW E=> .a1 E cF λi c=>by
   obtain ⟨o1,K,b7⟩:=zL bc;obtain ⟨o2,ag,cX⟩:=zL W;rw[c] at K;cases K;exact gP
  have t1:a3 [U] j n.ab:=λf w=>by rw[e.cb] at w;clear a9 a1;subst w;obtain ⟨o1,K,b7⟩:=zL bc;exact ⟨bN,bw,o1,K,λg=>ba⟩
  refine wpAny_storeName_cell p.c0 V a9 bc λl W E=>?_;have x1:=a1 W E;refine a l n.bW (λf i c w=>E.fr f i (λg=>w (g▸p.dp b B cT _ ap V a9)) c) (x1.bU λd O=>by rw[e.cb] at O;clear bw bN bc a1 t1 W E x1;subst O;exact p.dp b B cT _ ap V a9) gQ ⟨p.c0,p.c2,p.fl,p.ey,p.glob,p.vR,p.out,λk Q c=>by rw[e.er];exact p.lt k Q c,p.ar,
   ⟨F,aY.eB E (Tw aY bc),λk Q b' v' K ag b8=>?_⟩,λk Q K ag=>?_,p.d3,p.low,p.dp⟩
  ·have aE:kN.cS eV=h Q:=by rw[K];rfl
   have bt:k≠b:=λg=>by clear ap bH self a9;subst g;rw[V] at ag;cases ag
   obtain ⟨w',d,f⟩:=bE k Q _ v' K ag (bH k Q v' aE bt b8);exact ⟨w',d,f.lV t1 x1⟩
  ·by_cases bP:k=b
   ·clear ap bH V;subst bP;refine ⟨U,h J,a9,bw,bN,W,λv' c=>?_⟩;rw[self Q v' K c];exact ⟨J,rfl,rv.lV t1 x1⟩
   ·obtain ⟨c',u',aX,bx,lK,o9,qP⟩:=p.d9 k Q K ag;have hcc:c'≠U:=λg=>bP (p.d3 k b U (g▸aX) a9);refine ⟨c',u',aX,bx,lK,o9.eB E hcc,λv' c=>?_⟩;obtain ⟨w',b7,cX⟩:=qP v' (bH k Q v' K bP c);exact ⟨w',b7,cX.lV t1 x1⟩
end
end
mutual
section
open br.cP br.cQ
structure o6(s:e aw)(kM:jV)(aq:ae)(j:jV)(z:jE)(aD:e co)(a:ae):Prop where
 b:kK s kM aq j a
 G:b0 j z a
 p:∀ad∈aD,pW j a ad
mutual
section
variable {s:e aw}{kM j:jV}{aq a l:ae}{z:jE}{aD:e co}
theorem o6.ext df(b:bL j a j l)(G:b0 j z l):o6 s kM aq j z aD l:=⟨f.b.I (b.J s),G,λad ax=>(f.p ad ax).ext b⟩
theorem o6.eD df(E:ae.SlotsOnly (aD.bB eX) a l):o6 s kM aq j z aD l:=by
 have dx:∀d∈aD.bB (·.ed),cn<=d/\d∉aM j/\∀i,a.ai d=h i->bd i.aJ=0:=λd O=>by obtain ⟨ad,ax,bs⟩:=e.fJ.X O;obtain ⟨_,aU,i,aX,bx,lK,o9,qP⟩:=f.p ad ax;rw[bs] at aX;cases aX;exact ⟨bx,lK,λo' c=>by rw[o9] at c;cases c;exact qP⟩
 have b:bL j a j l:=⟨gJ,by rw[E.1];exact A.c9 _,λd i c x=>by
  by_cases g:d∈aD.bB eX
  ·obtain ⟨sl,e'⟩:=E.2.2 d i c;exact ⟨sl,e',λr=>aW ((dx d g).2.2 i c) r⟩
  ·exact .eA ((E.2.1 d g).I c)⟩
 refine f.ext b (f.G.eA b (λd i c=>(E.2.1 d λg=>?_).I (f.G.base d i c)) λd O=>E.2.1 d λg=>(dx d g).2.1 O);exact aW dO (A.cc.aC (dx d g).1)
theorem o6.bV df gv:o6 s kM aq j z aD (a.bV i):=f.ext (bL.bV j a i) (f.G.bV i)
theorem o6.aM df bq{c T:aw}{bf:e gS}{oe F4:aH} dd gU(W:z[o]?=h gV)(E:ae.bM c a l)
  (ax:a.ai c=h oe)(cM:l.ai c=h F4)(bg:F4.b5=oe.b5)(hdi:F4.dq=oe.dq)(P:F4.aJ= .b9 vs) gW:o6 s kM aq j z aD l:=by
 have bh:c∈Mine.Internal.aM j:=t7 N;have b:bL j a j l:= .aM (by rw[E.1];exact A.c9 _) λd O i g=>(E.2 d λr=>O gX).I g;refine f.ext b ?_;obtain ⟨p',mP,ro⟩:=f.G.ro o _ W;rw[N] at mP;cases mP;have Kf:z=z.set o gV:=by obtain ⟨L,aa⟩:=e.fs.X W;rw[<-aa];simp
 rw[Kf];refine f.G.upd N b (f.G.baseOf λd O i g=>(E.2 d λr=>O gX).I g) (λd O=>E.2 d λr=>O (by simp [r])) ?_;have nd:=f.G.nd;cases ro with
 |dy a9 bw bN bc cR=>
  rw[ax] at a9;cases a9;have J9:T≠c:=λg=>by obtain ⟨L,aa⟩:=e.fs.X N;have aY:gT∈j:=e.mem_of_getElem? N;obtain ⟨l1,l2,rfl⟩:=e.append_of_mem aY;clear E ax cM f N bh b bc L aa aY;subst g;rw[show Mine.Internal.aM (l1++(T,h T)::l2)=Mine.Internal.aM l1++(T::T::Mine.Internal.aM l2) by simp [Mine.Internal.aM]] at nd;have:=(e.fL.X nd).2.1;simp at this
  exact .dy cM ⟨bg.I bw.1,hdi.I bw.2.1,vs,P,a5⟩ ((E.2 _ J9).I bN) (bc.ext b) cR
theorem o6.tb df cj{ak:aw}{oT Le:aH}{ts ts':cm R}(Rz:aq.bi.av<=ak)(ai3:ak∉Mine.Internal.aM j)(E:ae.bM ak a l)
  (c5:a.ai ak=h oT)(P:oT.aJ= .b9 ts)(Ry:l.ai ak=h Le)(hd':Le.aJ= .b9 ts'):o6 s kM aq j z aD l:=by
 have V:∀i,a.ai ak=h i->∃o',l.ai ak=h o'/\q9 o' i:=λi c=>by rw[c5] at c;cases c;exact ⟨Le,Ry,.low (by rw[P,hd'];rfl) (by rw[P];exact (by decide:(2:A)<3))⟩
 have x1:kK [ak] j a j l:= .a1 E cF V;have t1:a3 [ak] j a:=λd O=>by rw[e.cb] at O;clear E Ry V x1;subst O;exact ⟨A.eq a4 Rz,ai3,oT,c5,λg=>by rw[P] at g;exact aW g (by decide:(2:A)≠3)⟩
 refine ⟨?_,f.G.a1 E t1 x1,λad ax=>(f.p ad ax).lV x1⟩;have:=(f.b.bU (bn:=ak::s) λd O=>e.bS _ O).I (x1.bU (bn:=ak::s) λd O=>by rw[e.cb] at O;simp [O]);exact this.old λd O hlt=>by
  rcases e.bG.X O with rfl|O
  ·exact aW hlt (A.cc.aC Rz)
  ·exact O
end
mutual
section
variable {s:e aw}{kM j:jV}{aq:ae}{z:jE}{ad:co}{aD:e co}{y:cl}{n:aI}{Z:R->aI->Prop}{o:A}{c aU:aw}{H:Unit->aI->Prop}
noncomputable def OQ eS(c:aw):Prop:=∃i vs ak,a.ai c=h i/\i.aJ= .b9 vs/\vs[1]?=h (.cD ak)
theorem ER{du:af aw} cj gY dg
  (a:∀l,o6 s kM aq j z aD l->qg j z aq l o c->H () ck):aF aQ.aj y (fS bZ du) H Z n:=by
 have uM:=bf;obtain ⟨T,oe,vs,bf,N,W,ax,bg,P,a5,g⟩:=bf;unfold fS;rcases g with g|⟨ak,oT,ts,kE,kJ,nB,xV,q5,CA⟩
 ·refine aR gZ;rw[bF dm];exact cf (a n.ab f uM)
 ·refine aR g0;rw[ca g1];refine eG xV q5 CA ?_;have rG:=aH.d_ q5 g2;have J8:=ae.ef g3 xV eZ;have E:=ae.bM.dB n.ab ak g3;have bt:c≠ak:=λr=>nB g4;exact a _ g5 ⟨T,oe,vs,bf,N,W,(E.2 c bt).I ax,bg,P,a5,.bp ⟨ak,_,_,kE,kJ,nB,J8,rG,by simp [CA]⟩⟩
theorem QM{eh:R}{fv:as}{T:aw}{oe:aH} dd{JY:e gS} cj dS(bs:ad.ed=h aU) dT
  gU(W:z[o]?=h (.dy 39 JY))(ax:n.ab.ai c=h oe)(bg:oe.b5= .cD 38)(P:oe.aJ= .b9 vs) gW
  g6:
  aF aQ.aj y (do let d<-frameOf ad;let pl<-entryPlaceOf aU fv;let f<-ff.fK eh d .none (ez aU) .none pl;setField bZ 1 f) H Z n:=by
 refine aR (wpAny_frameOf_fun cy (pW.fun f.p) bs λa6 ei=>?_);have aX:=f.eD ei;refine aR (wpAny_entryPlaceOf λpl hpl=>?_);unfold ff.fK newFields;refine aR (wpAny_newObj_type ?_ (hpl.sizeOk5 _ _ _ _ _));have ai8:c∉(ad::aD).bB eX:=λaY=>by obtain ⟨env',cM,hf'⟩:=e.fJ.X aY;obtain ⟨_,L',i,aX,_,lK,_⟩:=f.p env' cM;rw[hf'] at aX;clear xζ3 xζ5;cases aX;exact lK go
 have J_:a6.ai c=h oe:=(ei.2.1 c ai8).I ax;generalize hob:({b5:= .type "traceback",dq:=none,aJ:= .b9 ([eh,.cD aU,.none,ez aU,.none]++(if pl.fC then e.replicate 6 R.none else pl)).eF}:aH)=ob;have c7:∃ts,ob.aJ= .b9 ts/\3<ts.av:=⟨_,by rewrite [<-hob];rfl,by simp only [e.size_toArray,e.cA,e.length_cons,e.length_nil];omega⟩;obtain ⟨ts,c7,hts⟩:=c7;have bx:=aX.bV ob;have zG:(a6.bV ob).ai c=h oe:=ae.get?_push_of_some ob J_;refine eG zG P a5 ?_;have rG:=aH.d_ P g7;have xy:=ae.ef g8 zG eZ;have uO:=ae.bM.dB (a6.bV ob) c g8;have ai2:a6.bi.av≠c:=A.ne_of_gt (ae.fI J_);have c5:(a6.bV ob).ai a6.bi.av=h ob:=ae.get?_push_size a6 (aH.fD c7);refine a _ (bx.aM N W uO zG xy (aH.fn _ _) (by obtain ⟨U,d',fo,sl⟩:=oe;clear ax bg P J_ zG rG xy;cases fo<;>rfl) rG (by simp [a5])) ⟨T,_,_,JY,N,W,xy,(aH.fn _ _).I bg,rG,by simp [a5],.bp ⟨a6.bi.av,ob,ts,by simp [a5],?_,?_,?_,c7,hts⟩⟩ ⟨_,_,a6.bi.av,xy,rG,by simp [a5]⟩
 ·exact aX.b.av
 ·exact λg=>aW (aX.G.sG _ g) (A.lt_irrefl _)
 ·exact (uO.2 _ ai2).I c5
theorem K_ cj dS dT dg
  g6:aF aQ.aj y (fN bZ ad) H Z n:=by
 have uM:=bf;obtain ⟨T,oe,vs,JY,N,W,ax,bg,P,a5,g⟩:=bf;obtain ⟨_,aU,oL,bs,_⟩:=f.p ad e.bT;unfold fN;simp only [bs];rcases g with g|⟨ak,oT,ts,kE,kJ,nB,xV,q5,CA⟩
 ·refine aR gZ;rw[bF dm];exact QM a4 cy bs f N W ax bg P a5 a
 ·refine aR g0;rw[ca g1];refine aR (dC xV q5 (cm.getElem?_eq_getElem CA) ?_)
  split
  ·exact cf (a n.ab f uM ⟨oe,vs,ak,ax,P,kE⟩)
  ·have rG:=aH.d_ q5 g9;have J8:=ae.ef e0 xV eZ;have E:=ae.bM.dB n.ab ak e0;have bt:c≠ak:=λr=>nB g4;refine aR (eG xV q5 CA ?_);exact QM (n:={n with ab:=n.ab.dB ak e0}) a4 cy bs g5 N W ((E.2 c bt).I ax) bg P a5 a
theorem akC cj dS dT dg
  (a:∀l,o6 s kM aq j z dh l->qg j z aq l o c->H () ck):aF aQ.aj y (fG ad bZ) H Z n:=by
 unfold fG;exact aR (K_ a4 cy f bf λl b' uM x=>ER (n:=ck) a4 b' uM a)
theorem afr cj gY dg(mQ:OQ n.ab c)
  (a:∀l,o6 s kM aq j z aD l->qg j z aq l o c->Z bZ ck):d7 aQ.aj y ad Z bZ n:=by
 obtain ⟨i,vs,ak,bh,P,bE⟩:=mQ;unfold d7;refine aR (dC bh P bE ?_);rw[bF cF];exact ER a4 f bf a
theorem amr cj dS dT dg
  (a:∀l,o6 s kM aq j z dh l->qg j z aq l o c->Z bZ ck):fO aQ.aj y ad (λb s'=>d7 aQ.aj y ad Z b s') bZ n:=by
 unfold fO;exact K_ a4 cy f bf λl b' uM mQ=>afr (n:=ck) a4 b' uM mQ a
end
end
mutual
section
open br.cP br.cQ
theorem alx g_ di:∀bl,o∉D->(D.ay M).au o=none:=by
 induction D with
 |an=>exact λx=>rfl
 |ah d D ih=>
  intro M a;cases M with
  |an=>rfl
  |ah J M=>show (match o==d with|true=>h J|false=>(D.ay M).au o)=none;rw[show ha=false from dn.aC λg=>a (g▸e.bT)];exact ih λg=>a (e.bS _ g)
theorem aiw hb{p G:α->af β}{C:e α}(a:∀b∈C,p b=G b):C.bB p=C.bB G:=by
 induction C with
 |an=>rfl
 |ah d C ih=>rw[e.ec,e.ec,a d e.bT,ih λb ap=>a b (e.bS _ ap)]
theorem Q5 di:∀bl,D.bv->D.al=M.al->(D.bB λo=>((D.ay M).au o).am (o,·))=D.ay M:=by
 induction D with
 |an=>exact λx x=>rfl
 |ah d D ih=>
  intro M nd a;cases M with
  |an=>exact nomatch a
  |ah J M=>
   have nd:=e.c_.X nd;have c (o:ao):((d::D).ay (J::M)).au o=match o==d with|true=>h J|false=>(D.ay M).au o:=rfl
   rw[e.ec,c,fk];refine cW ((d,J)::·) (Eq.I (aiw λo W=>?_) (ih nd.2 (A.eE.ar a)));rw[c,show ha=false from dn.aC λg=>nd.1 (g▸W)]
theorem SQ g_ di:∀bl,o∈D->D.al=M.al->((D.ay M).au o).dz=false:=by
 induction D with
 |an=>exact λa=>aW a e.cd
 |ah d D ih=>
  intro M a aB;cases M with
  |an=>exact nomatch aB
  |ah J M=>
   show (match o==d with|true=>h J|false=>(D.ay M).au o).dz=false;cases g:o==d with
   |true=>rfl
   |false=>exact ih ((e.bG.X a).resolve_left (dn.X g)) (A.eE.ar aB)
theorem arZ di bl{d:ao} hc dU:D.ay M++[(d,T)]=(D++ch).ay e1:=by rw[e.fV aB];rfl
theorem VR di bl a7 dU:(D++[b]).ay M=D.ay M:=by have:=e.fV (l₁:=D) (r₁:=[b]) (l₂:=M) (r₂:=([]:e R)) aB;rw[e.d4,e.zip_nil_right,e.d4] at this;exact this
noncomputable def yZ(b:ao×R)(C:e cJ):Sem (ForInStep (e cJ)):=if (C.au b.1).dz=true then cC (.eH (C++[(b.1,b.2)])) else cC (.eH C)
theorem aft e3 bl hd:∀(aU:e ao) (aA:e R),(∀o∈aU,o∈a8)->dt (aU.ay aA) dj yZ=cC dj:=by
 intro aU;induction aU with
 |an=>intro aA _;rfl
 |ah o aU ih=>
  intro aA a;cases aA with
  |an=>rfl
  |ah T aA=>
   rw[e.zip_cons_cons,e.forIn_cons];have:yZ (o,T) dj=cC (.eH dj):=by unfold yZ;rw[SQ (a o e.bT) aB];rfl
   rw[this];exact ih aA λF aY=>a F (e.bS _ aY)
theorem PO e3 bl hd(t:A):(a8.dA t).ds he=[]:=by rw[e.filter_eq_nil_iff];intro o W;rw[SQ (e.mem_of_mem_take W) aB];exact as.ex
mutual
section
variable {aj:Model}{y:cl}{Z:R->aI->Prop}{n:aI}
theorem wn dV{H:α->aI->Prop}{U:Prop}[T:Decidable U]{d f:Sem α}(a:¬U)(G:aF aj y f H Z n):aF aj y (if U then d else f) H Z n:=by rw[bF a];exact G
theorem al7 hf(a:C=[]):¬((!C.fC)=true):=by subst a;exact as.ex
theorem arj hb{H:β->aI->Prop}{F:Sem α}{t:α->Sem β}{d:α}(a:F=cC d)(G:aF aj y (t d) H Z n):aF aj y (F>>=t) H Z n:=by subst a;exact aR (cf G)
theorem PS e5 e6 bl e7 e8 e9 e_ e3{aA:e R}{bm:e cJ}(c4:D.am aG=a8) hh
  (aB:M.al<=a8.al)(dw:(i.getD #[]).fT=aA)
  (aY:(a8.dA hj).ds he=[])
  (a5:dt ((a8.bO hj).ay (aA.bO hi)) dj yZ=cC bm)
  fa
  (a:H (a8.bB λo=>(bm.au o).am (o,·)) n):aF aj y fb H Z n:=by
 cases cu;dsimp only at N P;subst N c4 dw;refine aR hk;refine aR (P _ ?_);refine wn (λg=>?_) ?_
 ·rw[as.fj] at g;exact A.cc.aC aB (ce g.1)
 refine wn (al7 aY) ?_;refine arj a5 ?_;refine aR hk;refine cf ?_;show H (e.bB _ (D.am aG++[])) n;rw[e.d4];exact a
theorem Jt e5 e6 bl e7 e8 e9 e_ hh(nd:(D.am aG).bv)
  dU fa(a:H ((D.am aG).ay M) n):aF aj y fb H Z n:=by
 have bb:=(e.fH (D:=D) aG).I aB;exact PS rfl N (A.le_of_eq bb.symm) rfl (PO bb _) (aft bb _ _ λx a=>e.mem_of_mem_drop a) P (by rw[Q5 nd bb];exact a)
theorem afA e5 e6{d:cO} bl e7 hc e8 e9 e_(N:cu.fQ=⟨[],D++ch,none,[],kd,none,ea⟩)(nd:((D++ch).am aG).bv)
  dU fa(dw:(i.getD #[]).fT=[T])(a:H (((D++ch).am aG).ay e1) n):aF aj y fb H Z n:=by
 have c4:(D++ch).am aG=D.am aG++dX:=e.map_append;have bb:=(e.fH (D:=D) aG).I aB;rw[c4] at a nd;have K:([T]:e R).bO (1 -(D.am aG++dX).al)=[T]:=by rw[e.cA,A.sub_eq_zero_of_le (A.le_add_left _ _)];rfl
 have ag:(D.am aG++dX).al -1=(D.am aG).al:=by rw[e.cA];rfl
 have ap:d.arg∉D.am aG:=λg=>(e.fL.X nd).2.2 _ g _ (e.cb.aC rfl) rfl;refine PS (bm:=(D.am aG++dX).ay e1) c4 N ?_ dw ?_ ?_ P (by rw[Q5 nd (by rw[e.cA,e.cA,bb];rfl)];exact a)
 ·rw[e.cA,bb];exact A.le_add_right _ _
 ·show e.ds _ (e.dA hm _)=[];rw[K,VR bb];show e.ds _ (e.dA hn _)=[];rw[ag,e.take_left];have:=PO bb (D.am aG).al;rw[e.take_length] at this;exact this
 ·show dt (e.ay (e.bO hm _) (e.bO hl _)) _ _=_;rw[K,VR bb];show dt (e.ay (e.bO hn _) _) _ _=_;rw[ag,e.drop_left,<-arZ bb];show yZ (d.arg,T) _>>=_=_;unfold yZ;rw[alx ap];rfl
end
end
mutual
section
open br.cP br.cQ
structure wH(sc:d1)(ps:e cO):Prop where
 hw:sc.fB=false
 gen:sc.fE=false
 c0:sc.eo= .ee
 nd:(sc.aO.am cK).bv
 kinds:∀m∈sc.aO,m.2= .local\/m.2= .aZ\/m.2= .bC
 ey:∀m∈sc.aO,(m.1==("__debug__":ao))=false/\(m.1==("__classdict__":ao))=false
 xT:(ps.am aG).bv
 bound:∀m∈ps,sc.aO.au m.arg=h .local\/sc.aO.au m.arg=h .aZ
noncomputable def xK:e ao->as
 |[]=>true
 |b::q=> !(q.b3 λk=>cp.sEq b k)&&xK q
theorem FZ hf(a:xK C=true):C.bv:=by
 induction C with
 |an=>exact e.nodup_nil
 |ah b q ih=>simp only [xK,as.fj,as.cN,e.any_eq_false] at a;exact e.c_.aC ⟨λg=>a.1 b g (cp.fR.aC rfl),ih a.2⟩
noncomputable def UG(sc:d1)(ps:e cO):as:=
 !sc.fB&& !sc.fE&&(match sc.eo with| .ee=>true|_=>false)&&xK (sc.aO.am cK)&&
 (sc.aO.all λm=>(match m.2 with| .local=>true| .aZ=>true| .bC=>true|_=>false)&& !cp.sEq m.1 "__debug__"&& !cp.sEq m.1 "__classdict__")&&
 xK (ps.am aG)&&ps.all λm=>match lk sc.aO m.arg with|h .local=>true|h .aZ=>true|_=>false
theorem Ck dV{C:e ho} a7:lk C b=C.au b:=by
 induction C with
 |an=>rfl
 |ah m q ih=>
  show (match j4 b m.1 with|true=>h m.2|false=>lk q b)=match b==m.1 with|true=>h m.2|false=>q.au b
  cases a:b==m.1 with
  |true=>rw[n8.aC (cZ a)]
  |false=>
   cases g:j4 b m.1 with
   |true=>rw[n8.X g,fk] at a;exact tf_ a
   |false=>exact ih
theorem F_{d f:ao}(a:cp.sEq d f=false):(d==f)=false:=by
 cases g:d==f with
 |false=>rfl
 |true=>rw[cp.fR.aC (cZ g)] at a;cases a
theorem wH.of{sc:d1} hp(a:UG sc ps=true):wH sc ps:=
 kC a λa c3=>kC a λa dv=>kC a λa a0=>kC a λa b_=>kC a λa aN=>kC a λL aa=>by
  have kk:=λm N=>kC (e.fi.X a0 m N) (cq:=_/\_/\_) λd U=>kC d λd f=>⟨d,f,U⟩;refine ⟨(as.cN _).X L,(as.cN _).X aa,?_,FZ b_,λm N=>?_,λm N=>⟨F_ ((as.cN _).X (kk m N).2.1),F_ ((as.cN _).X (kk m N).2.2)⟩,FZ dv,λm N=>?_⟩
  ·clear kk a0 c3;cases g:sc.eo with
   |ee=>rfl
   |_=>rw[g] at aN;exact c1 aN
  ·have d:=(kk m N).1;clear kk a0 c3;cases g:m.2 with
   |«local»=>exact .bQ rfl
   |aZ=>exact .bp (.bQ rfl)
   |bC=>exact .bp (.bp rfl)
   |_=>rw[g] at d;exact c1 d
  ·have d:=e.fi.X c3 m N;clear kk a0 c3;rw[Ck] at d;cases g:sc.aO.au m.arg with
   |none=>rw[g] at d;exact c1 d
   |h t=>cases t with
    |«local»=>exact .bQ rfl
    |aZ=>exact .bp rfl
    |_=>rw[g] at d;exact c1 d
noncomputable def s9 dY dk(lo aK:A):b1->kN->Prop
 | .local,g=>∃B,g= .a_ B false/\lo<=B/\B<aK
 | .aZ,g=>∃B,g= .a_ B true/\lo<=B/\B<aK
 | .cw,g=>g=kN.aP hq
 | .bC,g=>g= .c2
 | .cx,g=>g= .bad
theorem s9.bU cL a7{lo lo' aK hi':A} fd hs(a:s9 aP b lo aK kd g)(L:lo'<=lo)(aa:aK<=hi'):s9 aP b lo' hi' kd g:=by cases kd<;>first|exact a|(obtain ⟨B,c,d,f⟩:=a;exact ⟨B,c,ba,ba⟩)
theorem TX{i:af kN} cH dZ(a:kN.aP i= .a_ B f):False:=by
 cases i with
 |none=>cases a
 |h r=>
  cases r with
  |a_ o U=>cases U<;>cases a
  |out o=>cases a
  |c2=>cases a
  |bad=>cases a
theorem s9.low cL a7{lo aK:A} fd cH dZ(a:s9 aP b lo aK kd dl):lo<=B:=by
 cases kd with
 |«local»=>obtain ⟨Q,c,d,_⟩:=a;cases c;exact d
 |aZ=>obtain ⟨Q,c,d,_⟩:=a;cases c;exact d
 |cw=>exact (TX (Eq.symm a)).S
 |bC=>cases a
 |cx=>cases a
noncomputable def kE dY dk fe:b1->kN
 | .local=> .a_ o false
 | .aZ=> .a_ o true
 | .cw=>kN.aP hq
 | .bC=> .c2
 | .cx=> .bad
noncomputable def w1:b1->A
 | .local=>1
 | .aZ=>1
 | .cw=>0
 | .bC=>0
 | .cx=>0
theorem S2 dY hu dk eI fe:lR aP fX o=(b,kE aP b o kd)::lR aP q fY:=by cases kd<;>rfl
theorem al2 hu dk eI:rK fX=rK q+w1 kd:=by cases kd<;>rfl
theorem s9.a1 dY dk fe eI:s9 aP b o fY kd (kE aP b o kd):=by
 cases kd with
 |«local»=>exact fZ
 |aZ=>exact fZ
 |cw=>exact rfl
 |bC=>exact rfl
 |cx=>exact rfl
theorem Ui cL a7 bq fd cH dZ(a:kE aP b o kd= .a_ B f):o=B/\w1 kd=1:=by
 cases kd with
 |«local»=>cases a;exact f0
 |aZ=>cases a;exact f0
 |cw=>exact (TX a).S
 |bC=>cases a
 |cx=>cases a
theorem KV dV eJ f2 f3(a:f4=true):lk f5 b=h v:=by rw[Ck,e.et,a]
theorem FN dV eJ f2 f3(a:f4=false):lk f5 b=lk q b:=by rw[Ck,e.et,a,Ck]
theorem zZ cL dE bq a7 hs(a:lk eK b=h g):∃kd,aO.au b=h kd/\s9 aP b o (o+rK aO) kd g:=by
 induction aO generalizing o with
 |an=>cases a
 |ah d q ih=>
  obtain ⟨k,kd⟩:=d;rw[S2] at a;rw[al2,e.et];cases c:b==k with
  |true=>rw[KV c] at a;clear ih;cases a;rw[<-cZ c];exact ⟨kd,rfl,(s9.a1 aP b o kd).bU (A.c9 _) ba⟩
  |false=>rw[FN c] at a;obtain ⟨akl,d,f⟩:=ih a;exact ⟨akl,d,f.bU ba ba⟩
theorem S3 cL dE bq a7 cH dZ f6:o<=B:=
 let ⟨_,_,a⟩:=zZ a
 a.low
theorem K0 cL dE bq eJ cH{f b':as} f6(l:lk eK k=h f7):b=k:=by
 induction aO generalizing o with
 |an=>cases a
 |ah d q ih=>
  obtain ⟨r,kd⟩:=d;rw[S2] at a l;cases dr:b==r with
  |true=>
   cases ct:k==r with
   |true=>rw[cZ dr,cZ ct]
   |false=>rw[KV dr] at a;rw[FN ct] at l;obtain ⟨bA,cr⟩:=Ui (af.h.ar a);have:=S3 l;exact aW this ba
  |false=>
   rw[FN dr] at a;cases ct:k==r with
   |true=>rw[KV ct] at l;obtain ⟨bA,cr⟩:=Ui (af.h.ar l);have:=S3 a;exact aW this ba
   |false=>rw[FN ct] at l;exact ih a l
theorem PZ dE a7:∀bq {b2:e (ao×aw)},aO.au b=h .aZ\/(∃U,b2.au b=h U)->∃U,(d8 o aO b2).au b=h U:=by
 induction aO with
 |an=>exact λa=>a.S (λa=>nomatch a) fz
 |ah m q ih=>
  intro o b2 a;show ∃U,(if m.2== .aZ then d8 (o+1) q f8 else d8 o q b2).au b=h U;rw[show (m::q).au b=match b==m.1 with|true=>h m.2|false=>q.au b from rfl] at a;cases V:m.2== .aZ with
  |true=>
   refine ih ?_;rw[show e.au b f8=match b==m.1 with|true=>h o|false=>b2.au b from rfl];cases c:b==m.1 with
   |true=>exact .bp ⟨o,rfl⟩
   |false=>rw[c] at a;exact a
  |false=>
   refine ih (a.imp (λa=>?_) fz);cases c:b==m.1 with
   |true=>rw[c] at a;rw[af.h.ar a] at V;exact nomatch V
   |false=>rw[c] at a;exact a
theorem afy dF a7 f9:∀cG,b∉q.am cK->cV aL q F b=F b:=by
 induction q with
 |an=>exact λx=>rfl
 |ah m q ih=>
  intro F W;obtain ⟨L,aa⟩:=fM.X λg=>W f_;refine (ih aa:cV aL q (cV aL [m] F) b=_).I ?_;show (if aL m.1=h .local then λk=>if k=m.1 then h m.2 else F k else F) b=_;by_cases g:aL m.1=h .local
  ·rw[ca g];exact bF L
  ·rw[bF g]
theorem Ew dF a7 dQ ga:∀cG,(bz.am cK).bv->(b,J)∈bz->aL b=h .local->cV aL bz F b=h J:=by
 induction bz with
 |an=>exact λx a=>aW a e.cd
 |ah m q ih=>intro F nd a V;have nd:=e.c_.X nd;refine (e.bG.X a).S gb λa=>ih nd.2 a V;refine (afy (F:=cV aL [m] F) gc).I ?_;rw[<-c];show (if aL b=h .local then λk=>if k=b then h J else F k else F) b=_;rw[ca V];exact ca rfl
theorem afx dF a7 f9:∀cG,b∉q.am cK->cU aL q F b=F b:=by
 induction q with
 |an=>exact λx=>rfl
 |ah m q ih=>
  intro F W;obtain ⟨L,aa⟩:=fM.X λg=>W f_;refine (ih aa:cU aL q (cU aL [m] F) b=_).I ?_;show (if aL m.1=h .local then F else λk=>if k=m.1 then h m.2 else F k) b=_;by_cases g:aL m.1=h .local
  ·rw[ca g]
  ·rw[bF g];exact bF L
theorem afw dF a7 dQ ga:∀cG,(bz.am cK).bv->(b,J)∈bz->aL b≠h .local->cU aL bz F b=h J:=by
 induction bz with
 |an=>exact λx a=>aW a e.cd
 |ah m q ih=>intro F nd a V;have nd:=e.c_.X nd;refine (e.bG.X a).S gb λa=>ih nd.2 a V;refine (afx (F:=cU aL [m] F) gc).I ?_;rw[<-c];show (if aL b=h .local then F else λk=>if k=b then h J else F k) b=_;rw[bF V];exact ca rfl
theorem Af gd ge a7 dI gf gg cE gh(a:rR aV b v jF t z=h q):∃B f,lk aV b=h dl/\B<jF.al/\t de z=h q:=by
 replace a:(match lk aV b with
  |h (.a_ B _)=>match A.blt B jF.al with
   |true=>t de
   |false=>stuck
  |_=>stuck:aj bm) z=h q:=a
 cases ap:lk aV b with
 |none=>rw[ap] at a;cases a
 |h g=>
  rw[ap] at a;cases g with
  |a_ B f=>
   dsimp only at a;cases aK:A.blt B jF.al with
   |false=>rw[aK] at a;cases a
   |true=>rw[aK] at a;exact ⟨B,f,rfl,A.blt_eq.X aK,a⟩
  |_=>cases a
theorem aoC gd ge(ar:∀b k B f b',lk aV b=h dl->lk aV k=h f7->b=k) hp{bI:e jD} gf gg cE gh(nd:(ps.am aG).bv)(a:Gb aV ps bI jF t z=h q):
  ps.al=bI.al/\∃k7,t k7 z=h q/\k7.al=jF.al/\∀b B f v,lk aV b=h dl->k7[B]?=h eU->(b,v)∈(ps.am aG).ay bI\/jF[B]?=h eU:=by
 induction ps generalizing bI jF with
 |an=>
  cases bI with
  |an=>exact ⟨rfl,jF,a,rfl,λb B f v x c=> .bp c⟩
  |ah _ _=>cases a
 |ah m ps ih=>
  obtain ⟨b,d,Y⟩:=m;cases bI with
  |an=>cases a
  |ah v bI=>
   rw[e.map_cons,e.c_] at nd;obtain ⟨B,f,ap,hlt,a⟩:=Af (t:=λaz=>Gb aV ps bI az t) a;obtain ⟨L,k7,aa,aN,b_⟩:=ih nd.2 a;rw[e.er] at aN;refine ⟨cW A.eE L,k7,aa,aN,λk Q b' u K ag=>?_⟩;obtain a0|a0:=b_ k Q b' u K ag
   ·exact .bQ (e.bS _ a0)
   ·by_cases hij:B=Q
    ·rw[<-hij] at a0 K;rw[e.fu hlt] at a0;rw[<-af.h.ar (af.h.ar a0),ar k b B _ _ K ap];exact .bQ e.bT
    ·rw[e.ft hij] at a0;exact .bp a0
end
end
mutual
example _ e s ρ h p n b x k List some X q r Q A g env T m u v Nat heap σ E c a h2 R jF W h1 e1 es ζ f i ev o jK M jD fd g1 Shared hl w h' Value l ρ' _ _ _ _ _ _ _ _ _ _ _ d x1 ac hb length run C σ' pos e2 Addr hk hp h₁ wpAny z G Int t «at» wpAny_bind fs hv size trans σ1 Expr h3 objs scope j lookup names y[{b with x:=G,bj:=t1}]Bool D hf{ai:b1}Around[t.ext ab][K.ext ab][O.bM ab]{c:jV}Except hc he hn Env P hlen le_trans slice absurd body g2 get? hd ops{d:bs}[⟨?_,⟨λJ J=>rfl,λJ=>rfl⟩⟩][e.bM ab]ho map mpr[lR [] R.aD.aG 0](aK:q6 s){I:j aA}Post hbi hs ns_ toks zip[(·.arg)][bL×kN][⟨?_⟩]{D:Type}{y:jE}{p:aN}[by decide]Heap PySem a2 bool c2 cons «by» fr hi hr ht hx hz nil ret wpAny_pure And Ext F Str after c1 cell cs fin h₀ kindOf motive vals value wpAny_mono{a:aA}(d:kI f s l a){b:T}tk' Pos h4 hg hm hq hw int lim mem_cons_self mem_of_lookup ref whole{E:jL}{n:aS Q D×jE}CmpOp Option base bs builtins c3 cm f1 globals hT hab hc1 id inl items place rest subscriptTail toArray type units wpAny_holding σ2{z:X->T->Prop}[jG](q:aq c y b.x){h:bL}{i:Q->P D}[.refl _ _]{op:dh}{A:w}Calls SeqAt Stmt UnaryOp a1 a3 a4 as cellsFrom code congrArg data en find? free globalExplicit globalImplicit isKey le_of_lt push test typeIs wpAny_truthy_bool[.slot L g][(h,v)][dy a r][{b with x:=W,bj:=tk}]{v:Q}[ab.ay x2][h.ay x']{av:j (bL×Q)}{i:ar}{r:aW}(pg:jG c b.x L wi)h₀' BoolOp Flow K Scope U add_le_add_left add_le_add_right «do» append_nil cLine cells cont d1 deeper df dict elim eval fn frames_deeper h0 hone inst keep keeps keys le_of_eq lt_irrefl lt_of_lt_of_le mem_cons mem_cons_of_mem ofNat_le older operate same starEach subscripted s₂ s₃ toInCall toNat t₁ wpAny_standAt[f+1]{bU:j Q}(uN:R.cm=e5)(bg:R.ci=eF)(aY:ps.ae=bU.ae)[lR [] sc.aG 0][k v][R.fh++".<locals>."][k B][b.x.aC.ax+1][((ps.ba bl).bk MJ)][q.sG _ m][λv=>jY v i]{V:X}[.bv g][⟨λJ J=>rfl,λJ=>rfl⟩][λB va j9 az G t1 ab S ra H=>?_][!g][.bv _][e'::I]{o:X->T->Prop}{a6:j ce}[bW (d.af t K q M ed O) (λv s1 ap=>ap) λJ J ap=>ap][(·.key.isStr h)]{f:w}{e:ak×cf ak}[eT N L][(f:ar)]{f e:w}(d:∀nK tk,jG c b.x u nK->o nK {b with bj:=tk})DictEntry FuncData I InstAt IsCell IsList Pairwise Result a5 add_assoc add_right_comm b1 b2 blt_eq builtinsNs c0 codeAny d2 decide_eq_true defaults dp e3 evalEach fe filterMap fl getElem?_toArray getElem?_zip_eq_some getItem hF hU hW handed holding hu instObj isTrue locals lookIn lt_of_le_of_lt mainGlobals markedEach mem_filterMap mem_of_getElem? negSucc neg_add neg_le_neg newEnv not_lt not_mem_nil ofBool or_eq_true_iff params qualname seqIndex? slot_dict_getitem standAt toList toNat_of_nonneg wpAny_allTrue_And_cons wpAny_allTrue_Or_cons wpAny_letTemporaryGo wpAny_seqItems[p.du r]{B:ak}{sc:dk}{ps:j Arg}{t ck:bL->cf X}(ok:wH sc ps)[λv=>o (.ok (.bG v))](q:aq c y d)[λh=>sc.aG.aF h][.error a][((ps.ba bl).bk ws)][ck f][λa=>o fA][.ca B][fb R.aD d.aC.ax R.cm bP d5 d6 R.cS none R.ci][b_ G][sG _ m][w.dI _][b_ aj]{MJ:j X}(ok:wH R.aD ps)(j6:jR c b.x bU MJ)(U:E.ae=rK R.aD.aG)(aw:∀h L g v,lk bc h=k c6->E[L]?=k d4->c7∈(ps.ba bl).bk bU)[q.cg g N a][aN.dA hfs][old x']{α:Type}[ps.ae -vs.ae][q.cg _ _ cn][a::I]{i:aJ->P D}(a:jY v i y=k n){kd:w}[λg vb lI cA C t2 x2 a3 rb aj=>?_][{b with x:=C,bj:=t2}][ra.ext x2][e.bM da]{op:cM}[d.af t K q M ed O][λg b' j9 az G t1 ab S rb H=>?_]{as g N:aA}(bC:pI f s l as)[.IfExp as g N ai][bC.af t K q M (λA c' j9 az G t1 ab S rc H=>?_) O][d.af t K q M (λv V j9 az G t1 ab S rv H=>?_) O](d:ux f s l I)[d.af t K q M (λvs ws j9 az G t1 ab S j6 H=>?_) O]{vs:j X}[d.c2 {cls:= .cx "tuple",cU:= .seq vs.cw}]{a e':aA}[a::e'::I][.bv false][.bv true]{β:Type}[.dh op I ai][j.dL _ bD][λv s1 ap=>ap][au (cz (c5 ?_))](d:∀a∈I,pI f s l a)[(d a j.b9).af t K q M f5 O]{op:ce}[e6 a6 I (eN I r)]{P:Model}[dj g][.bv A](h:kK F c b.x qu an)[{b with x:=an,bj:=dW}][e _ _ j9 az G t1 ab S rfl H][λJ J ap=>au (cz ap)][arw gm]{Y:aA}(d:kI f s l Y)(bh:Bf f s l a6 I)[.Compare Y a6 I ai][⟨PyData.keyHash ag.V.fg aH,.str aH as,V⟩](aT:A≠38/\A≠39)[.dD A av](n:lg c d gF e)[(B,k aa)][e0 A aa][k ⟨.cx "dict",none,.dw I f,#[]⟩]{aX:Prop}{o z:X->T->Prop}(rv:jG c b.x v V)(e:bf n i cC c b o)[b.bj+1]{bV a0:aA}(e:r6 F n c b z)[au bQ](d:ct i f=k e)[aE+1](s:Tb)(l:j bm){I:j (Q×Q)}[λN=>N][tB L][ct i Y.ae](a:ob gY (λi=>ob gZ λe=>Y[e]?)=k u)(rs:jR c b.x Y us)[{b with bj:=tk}][cv bV a0 fE wi][d nK b.bj C](eZ:p.cy+20<dq)[.Subscript a L ai]bn co dk f2 ha:True:=x
mutual
section
open bt.cJ bt.cK
structure oH(f:w)(B:ak)(t:j Q->P Q):Prop where
 af:∀{p:aN} {c:jV} {y:jE} {b:T} {vs:j Q} {ws:j X} {n:aS Q Q×jE} {o:ey->T->Prop},kR f p c b.x->aq c y b.x->jR c b.x vs ws->t vs y=k n->
  bf n bG cC c b fx->nF n c b fD->eH ag.P p (.call fE ⟨ws,[]⟩) o b
noncomputable def FnAt(B:ak)(ps:j Arg)(a2:j cL)(sc:dk)(oW:j Q):Prop:=
 ∃N R kd dv,ag.bR.a4 B=k N/\N.cU= .func R/\R.fg=⟨[],ps,none,[],kd,none,dv⟩/\R.a2= .stmts a2/\R.aD=sc/\R.cm=e5/\R.closure=[]/\R.ci=eF/\
  ag.bR.CodeRec R.cS R.fh/\((oW=[]/\R.eK= .none)\/∃aa V s oT f,oW=[aa]/\R.eK= .ca s/\ag.bR.a4 s=k oT/\oT.cU= .seq #[V] f/\∀c d,jG c d aa V)
structure A9{D:Type}(F:j ak)(l:j bm)(r:aW)(n:aS Q D×jE)(kn:jL->P D)(kr:Q->P D)(l5:jL->P D)(c:jV)(b:T)(o:di->T->Prop):Prop where
 next:∀k7 Z ah W tk,kK F c b.x Z W->aq Z ah W->FR F l r k7 Z W->kn k7 ah=k n->o .next c9
 bG:∀v V Z ah W tk,kK F c b.x Z W->aq Z ah W->jG Z W v V->kr v ah=k n->o (.bG V) c9
 ds:∀k7 Z ah W tk,kK F c b.x Z W->aq Z ah W->FR F l r k7 Z W->l5 k7 ah=k n->o .ds c9
noncomputable def r6 bo(F:j ak)(n:aS Q D×jE)(c:jV)(b:T)(z:X->T->Prop):Prop:=
 ∀f Z ah W tk a,n=(.error (.obj f),ah)->kK F c b.x Z W->aq Z ah W->qg Z ah b.x W f a->z (.ca a) c9
mutual
section
variable {D:Type}{F:j ak}{l:j bm}{r:aW}{n:aS Q D×jE}{kn:jL->P D}{kr:Q->P D}{l5:jL->P D}{c qu:jV}{b:T}{an:bs}{dW:w}{o:di->T->Prop}{z:X->T->Prop}
theorem A9.bM(e:A9 F l r n kn kr l5 c b o) gu:A9 F l r n kn kr l5 qu gv o:=
 ⟨λB g A aa a x'=>e.next B g A aa a db,λB g A aa a K x'=>e.bG B g A aa a K db,λB g A aa a x'=>e.ds B g A aa a db⟩
theorem qg.dN bp{bR dg d:bs} el{a:ak}(K:qg c y bR d f a)(bE:dg.aC.ax<=bR.aC.ax):qg c y dg d f a:=by obtain ⟨aa,oe,vs,av,B,g,A,d',e',f',m⟩:=K;exact ⟨aa,oe,vs,av,B,g,A,d',e',f',m.imp cq λm=>by obtain ⟨s,oT,ts,kE,kJ,nB⟩:=m;exact ⟨s,oT,ts,kE,w.aZ bE kJ,nB⟩⟩
theorem r6.bM gQ gu:r6 F n qu gv z:=
 λf Z ah W tk a bB x' q K=>e f Z ah W tk a bB db q (K.dN h.ax)
theorem r6.err gQ:nF n c b z:=λf Z ah W tk a bB h q K=>e f Z ah W tk a bB (h.V F) q K
end
noncomputable def IM(f:w) gU gV(ss:j cL):Prop:=
 ∀bo bq de {av:j aW} {F:j ak} cc aR bp bZ {kn:jL->P D} {kr:Q->P D} {l5:jL->P D} cd {o:di->T->Prop} cB,
  kR f p c b.x->p.frames=k (r::av)->FR F l r E c b.x->Tame F c b.x->aq c y b.x->lD s l ss E kn kr l5 y=k n->A9 F l r n kn kr l5 c b o->r6 F n c b z->
  ao ag.P p (execs ss r) o z b
theorem kR.du el bq aR a7 de(t:kR dY p c d)(K:pW c d r):kR f fr c d:=by
 obtain ⟨av,B,g⟩:=t.bz;refine ⟨t.a5,?_,?_,r::av,aN.dA B,λenv' aU=>?_⟩
 ·exact w.aZ (w.dn (w.aZ (w.dH (w.eB _ 1 _)) (w.dm (by decide:1<=3) (p.depth+3*f))) 5) (w.eA p.depth (3*f) 3▸t.eL)
 ·exact w.aZ (w.dn (w.aZ (w.dH (w.eB _ 3 _)) (w.dm (by decide:3<=30) (p.cy+30*f))) 60) (w.eA p.cy (30*f) 30▸t.un)
 ·rcases j.dK.mp aU with rfl|aU
  ·exact K
  ·exact g _ aU
theorem FR.first{R:es} fs ft fu dZ{ws:j X} aR{d an:bs} cc bp{bP:j (bL×ak)} fv
  fw(hsc:R.aD=sc) d0 d1 fy(i:∀g N,d.a4 g=k N->an.a4 g=k N)(qt:bJ c d c an)
  (hcs:bP=cR (d.aC.ax+1) sc.aG [])(b4:t=bindL fz fB λJ=>none)(mD:ck=bindC fz fB λJ=>none)
  (aV:an.Ns d.aC.ax t)(aT:∀f A,bP.aF f=k A->an.ev A fC)(hap:bP.ex λh aH=>h.2≠aH.2)(co:∀f A,(f,A)∈bP->d.aC.ax<A)
  (rv:jR c d bU ws) d2(U:E.ae=rK sc.aG)(aw:∀h L g v,lk d3 h=k c6->E[L]?=k d4->c7∈(ps.ba bl).bk bU):
  FR (d.aC.ax::sc.aG.eP λe=>bP.aF e.1) d3 fF E c an:=by
 subst hsc;have sG:=q.sG;have bS:∀h,aW.bS fF h=R.aD.aG.aF h:=λJ=>rfl;have spec:∀{h m},lk bc h=k m->∃kd,R.aD.aG.aF h=k kd/\s9 [] h 0 (rK R.aD.aG) kd m:=λa=>by simpa using zZ a
 have Tn:∀h L,lk bc h≠k (.out L):=λh L a=>by
  obtain ⟨kd,G,C⟩:=spec a;have:=ok.kinds _ fG;cases kd with
  |cX=>simp at this
  |«local»=>obtain ⟨_,a,_⟩:=C;cases a
  |bO=>obtain ⟨_,a,_⟩:=C;cases a
  |cZ=>cases C
  |cY=>cases C
 have Ge:∀{h L},kN.at? (lk bc h)=k L->∃g,lk bc h=k c6:=λ{h L} a=>by
  cases b5:lk bc h with
  |none=>rw[b5] at a;cases a
  |k m=>rw[b5] at a;cases m<;>first|(cases a;exact ⟨_,rfl⟩)|(cases a;exact a1 b5 (Tn h _))|cases a
 have VD:∀{h v},c7∈(ps.ba bl).bk bU->∃V,(h,V)∈(ps.ba bl).bk ws/\jG c d v V:=λ{h v} a=>by obtain ⟨L,bA⟩:=j.getElem?_of_mem a;rw[j.eS] at bA;obtain ⟨G,C⟩:=bA;obtain ⟨V,aB,b2⟩:=rv.get L v C;exact ⟨V,j.e8 (j.eS.bb ⟨G,aB⟩),b2⟩
 have dG:(((ps.ba bl).bk ws).ba (·.1)).Nodup:=by rw[j.map_fst_zip (by rw[j.length_map,<-rv.ae];omega)];exact ok.xT
 refine ⟨ok.dz,uN,bg,λh m a=>?_,λh a=>?_,λh L g a=>?_,λh L a=>a1 a (Tn h L),λh L a=>?_,λh aH L a e'=>let ⟨_,a⟩:=Ge a;let ⟨_,e'⟩:=Ge e';K0 a e',⟨t,aV,λh L g v H aj eM=>?_⟩,λh L H aj=>?_,λh aH A H aj=>?_,⟨q.ch,λm=>a1 fH fI,j.b9⟩,λh L g A J al a=>?_⟩
 ·obtain ⟨kd,G,_⟩:=spec a;exact ok.plain _ fG
 ·obtain ⟨kd,G,C⟩:=spec a;rw[bS,G];cases kd with
  |cZ=>rfl
  |«local»=>obtain ⟨_,a,_⟩:=C;cases a
  |bO=>obtain ⟨_,a,_⟩:=C;cases a
  |cX=>cases C
  |cY=>cases C
 ·obtain ⟨kd,G,C⟩:=spec a;rw[bS,G];cases kd with
  |«local»=>obtain ⟨_,a,_⟩:=C;clear xζ2;cases a;rfl
  |bO=>obtain ⟨_,a,_⟩:=C;clear xζ2;cases a;rfl
  |cZ=>cases C
  |cX=>cases C
  |cY=>cases C
 ·obtain ⟨_,a⟩:=Ge a;obtain ⟨kd,G,C⟩:=spec a;rw[U];cases kd with
  |«local»=>obtain ⟨_,a,_,g⟩:=C;cases a;exact g
  |bO=>obtain ⟨_,a,_,g⟩:=C;cases a;exact g
  |cZ=>cases C
  |cX=>cases C
  |cY=>cases C
 ·obtain ⟨V,G,C⟩:=VD (aw h L g v H eM);exact ⟨V,by rw[b4];exact Ew dG G aj,C.ext qt⟩
 ·have al:R.aD.aG.aF h=k .bO:=by
   rcases aj with aj|aj
   ·exact aj
   ·rw[bS] at aj;have:=ok.kinds _ fJ;simp at this
  obtain ⟨A,cp⟩:=PZ (f:=d.aC.ax+1) (acc:=[]) (.cr al);rw[<-hcs] at cp;have hlt:=co _ _ (b_ cp);refine ⟨A,ck h,cp,λm=>?_,?_,aT _ _ cp,λv a=>?_⟩
  ·exact a1 fH (w.fc.bb (w.c1 hlt))
  ·have:=q.ch;omega
  ·obtain ⟨g,H⟩:=Ge H;obtain ⟨V,G,C⟩:=VD (aw h L g v H a);exact ⟨V,by rw[mD];exact afw dG G (by rw[al];simp),C.ext qt⟩
 ·exact name_of_addr hap (b_ H) fJ
 ·exact j.dL _ (j.e7.bb ⟨_,b_ al,a⟩)
mutual
section
variable {f:w}{s:Tb}{p:aN}{c:jV}{y:jE}{b:T}{B:ak}{ps:j Arg}{a2:j cL}{sc:dk}{R:es}
theorem aiy dZ fK de cc{an:bs} fv fL d0 d1 cD
  (aU:r=fb R.aD b.x.aC.ax R.cm (cR d7 R.aD.aG []) d5 d6 R.cS none R.ci)
  (b4:t=bindL r.bS d8 λJ=>none)(mD:ck=bindC r.bS d8 λJ=>none)
  (i:∀g N,b.x.a4 g=k N->an.a4 g=k N)(aV:an.Ns r.e2 t)(aT:∀f A,r.dr.aF f=k A->an.ev A fC)(hap:r.dr.ex λh aH=>h.2≠aH.2)(co:∀f A,(f,A)∈r.dr->r.e2<A)
  fM d2 fN fO:
  ∃F,(∀g∈F,b.x.aC.ax<=g)/\FR F bc r E c an/\pW c an r/\Tame F c an/\bJ c b.x c an/\aq c y an:=by
 cases aU;replace aV:an.Ns b.x.aC.ax t:=aV;obtain ⟨o1,H,dt⟩:=qT aV;have al1:b.x.aC.ax∉own c:=λm=>w.dI _ d9;have ab:bJ c b.x c an:=⟨⟨[],(j.dp c).symm,λJ m=>nomatch m⟩,w.c1 (bs.lt_size H),λg N a J=> .dP (i g N a)⟩;have S:aq c y an:=q.dP ab (λg N a=>i g N fP) λg ad=>(q.alive ad).dx λN a=>(i g N a).ay a.symm;have bz:=FR.first (B:=B) (E:=E) (y:=y) ok rfl uN bg q i ab rfl b4 mD aV aT hap co j6 aY U aw
 have low:∀g∈(b.x.aC.ax::R.aD.aG.eP λe=>(cR d7 R.aD.aG []).aF e.1),b.x.aC.ax<=g/\∃N,an.a4 g=k N/\(g9 N.cU=3->N.cls= .cx "list"):=λg ad=>by
  obtain ad|ad:=j.dK.mp ad
  ·rw[ad];exact ⟨w.le_refl _,o1,H,λm=>a1 (dt.symm.ay m) br⟩
  ·obtain ⟨e,_,hc'⟩:=j.e7.mp ad;obtain ⟨o2,aj,eI⟩:=zL (aT _ _ hc');exact ⟨w.c1 (co _ _ (b_ hc')),o2,aj,λm=>a1 (eI.symm.ay m) br⟩
 exact ⟨_,λg ad=>(low g ad).1,bz,⟨by rw[bz.dz];simp,b.x.aC.ax,o1,rfl,q.ch,al1,H,dt⟩,
  λg ad=>⟨w.aZ q.ch (low g ad).1,λm=>w.dI _ (w.dJ d9 (low g ad).1),(low g ad).2⟩,ab,S⟩
theorem JZ dZ fK cc{n:aS Q Q×jE}{o:ey->T->Prop} bd fL d0 d1(ad:IM f s bc a2)
  (t:kR dY p c b.x) cD(e:bf n bG cC c b fx)(O:nF n c b fD)(a:lD s bc a2 E (λJ=>bG .none) bG (λJ=>stuck) y=k n)
  fM d2 fN fO:
  ao ag.P p.in1 (newFunctionEnv R.aD R.cm [] d8 d5 d6 R.cS none R.ci) (λr dS=>dS.x.NoLimit/\eH ag.P p (.func a2 r) o dS) (λa s'=>o fA s') b:=by
 have Fq:∀h∈(ps.ba bl).bk MJ,R.aD.aG.aF h.1=k .local\/(R.aD.aG.aF h.1=k .bO/\((cR d7 R.aD.aG []).aF h.1).isSome=true):=λh bD=>by obtain ⟨m,b5,hq'⟩:=j.mem_map.mp (j.of_mem_zip bD).1;rw[<-hq'];refine (ok.bound m b5).imp cq λd=>⟨d,?_⟩;obtain ⟨A,aT⟩:=PZ (f:=b.x.aC.ax+1) (acc:=[]) (.cr d);rw[aT];rfl
 refine wpAny_newFunctionEnv_cells ok.dz Fq λr aU s₁ l=>?_;clear Fq;obtain ⟨an,tk,rfl⟩:=l.dU.dP;have i:∀g N,b.x.a4 g=k N->an.a4 g=k N:=l.dU.dE;obtain ⟨F,eW,bz,aiv,apX,ab,S⟩:=aiy (B:=B) ok uN bg q aU rfl rfl i l.dU.ns l.bO l.apart l.above j6 aY U aw;refine ⟨aK.Tt.dF λg N a=>i g N fP,codeAny_func ?_⟩;clear aU l j6 aY U aw ok uN bg;obtain ⟨av,hfs,_⟩:=t.bz;have m1:kR f fr c an:=(t.ext ab).du aiv;have old:∀{Z W},kK F c an Z W->bJ c b.x Z W:=λx'=>((ab.V F).ay x').ext eW;refine ad (av:=av) m1 fQ bz apX S a ⟨λk7 Z ah W b0 x' g' J e'=>e .none .none Z ah W b0 fR g' .none e',λv V Z ah W b0 x' g' CH e'=>e v V Z ah W b0 fR g' CH e',λJ J J J J J J J e'=>bi e'⟩ λn' Z ah W b0 H bB x' g' eQ=>?_;obtain ⟨fs',BV,eU⟩:=(m1.lV x').bz;rw[aN.dA hfs] at BV;cases BV;exact akC (F:=[]) (kM:=c) (bR:=b.x) q.ch fQ ⟨(old x').V [],g',eU⟩ (eQ.dN ab.ax) λh'' b'' JW=>O n' Z ah h'' b0 H bB (b''.h.ext λJ m=>nomatch m) b''.q JW
end
theorem ao4 fS{Y:j α}{i:w}(d:Y.ae=i+1):∃cQ B,Y=cQ++[B]/\cQ.ae=i:=by have hne:Y≠[]:=λa=>nomatch (cT j.ae a).symm.ay d;exact ⟨Y.dropLast,Y.getLast hne,(j.dropLast_concat_getLast hne).symm,(j.length_dropLast).ay (cT (· -1) d)⟩
theorem aha{e v as:w}(d:e=v+as)(bC:as<=1)(aL:e≠v):e=v+1:=by
 cases as with
 |zero=>exact a1 d aL
 |succ i=>cases w.le_zero.mp (w.le_of_succ_le_succ bC);exact d
theorem aiz el{s:Tb} fs fu{a2:j cL} ft{oW:j Q} bd fw(bK:FnAt B ps a2 sc oW)(ad:IM f s d3 a2):
  oH dY B (LQ s ps a2 sc oW):=by
 refine bn;intro p c y b vs ws n o t q rv a e O;obtain ⟨N,R,kd,dv,a_,hdata,am,hbody,hsc,uN,hclo,bg,hcd,hdf⟩:=bK;cases hsc;unfold LQ at a;obtain ⟨aY,E,aj,U,aw⟩:=aoC (λh aH L J J d W=>K0 d W) ok.xT a;have aw:∀h L g v,lk bc h=k c6->E[L]?=k d4->c7∈(ps.ba bl).bk (vs++oW.drop (oW.ae -fT)):=λh L g v G C=>
  (aw h L g v G C).dx cq λd=>nomatch (j.mem_replicate.mp (j.e8 d)).2
 rw[j.length_replicate] at U;refine codeAny_call_function (w.dJ (w.dJ (w.lt_succ_self _) (w.aZ (w.dm (by decide:1<=5) _) (w.dn (w.le_add_right _ _) 5))) t.eL) (q.cg _ _ a_) hdata ok.g8 ok.gen hbody (hcd.dF q.cg) ?_;rw[hclo];obtain ⟨rfl,a5⟩|⟨aa,V,Ta,oT,nn,rfl,a5,cn,RC,hrd⟩:=hdf
 ·rw[j.drop_nil,j.dp] at aY aw;exact Jt (N:=none) am ok.xT (aY.ay rv.ae) (λQ' m=>by rw[a5];exact bH m) (JZ aK ok uN bg ad t q e O aj rv aY U aw)
 ·by_cases aL:ps.ae=vs.ae
  ·rw[aL,w.sub_self,w.sub_zero,j.drop_length,j.dp] at aY aw;exact Jt (N:=k #[V]) am ok.xT (aL.ay rv.ae) (λQ' m=>by rw[a5];exact fq fU RC m) (JZ aK ok uN bg ad t q e O aj rv aL U aw)
  ·have dC:=aha (aY.ay j.length_append) (w.aZ (w.dH j.length_drop) (w.sub_le _ _)) aL;have dB:[aa].ae -fT=0:=by rw[dC,w.add_sub_cancel_left];rfl
   rw[dB,j.drop_zero] at aY aw;clear a aL dB;obtain ⟨cQ,Pb,rfl,has⟩:=ao4 dC;exact afA (N:=k #[V]) am ok.xT (has.ay rv.ae) (λQ' m=>by rw[a5];exact fq fU RC m) rfl (JZ aK ok uN bg ad t q e O aj (rv.snoc (hrd c b.x)) aY U aw)
end
mutual
section
open bt.cJ bt.cK
mutual
section
variable (f:w)(s:Tb)(l:j bm)
noncomputable def IJ:jV->bs->aJ->aJ->Prop:=λJ J B g=>B=g
structure Pl(a:aA):Prop where
 star:∀I r,dQ fV r=(false,dy a r)::dQ I r
 afu:∀op,behindInMarks op a=false
structure kI(a:aA):Prop where
 af:∀{D:Type} {p:aN} {r:aW} {F:j ak} {E:jL} {c:jV} {y:jE} {b:T} {i:Q->P D} {n:aS Q D×jE} {o z:X->T->Prop},
   kR f p c b.x->FR F l r E c b.x->aq c y b.x->kg s l a E i y=k n->bf n i cC c b o->nF n c b z->ao ag.P p c8 o z b
 pl:Pl a
structure pI(a:aA):Prop where
 af:∀{D:Type} {p:aN} {r:aW} {F:j ak} {E:jL} {c:jV} {y:jE} {b:T} {i:aJ->P D} {n:aS Q D×jE} {o:aJ->T->Prop} {z:X->T->Prop},
   kR f p c b.x->FR F l r E c b.x->aq c y b.x->kg s l a E d_ y=k n->bf n i IJ c b o->nF n c b z->ao ag.P p (e1 a r c8) o z b
structure ux(I:j aA):Prop where
 af:∀{D:Type} {p:aN} {r:aW} {F:j ak} {E:jL} {c:jV} {y:jE} {b:T} {i:j Q->P D} {n:aS Q D×jE} {o:j X->T->Prop} {z:X->T->Prop} {ai:b1},
   kR f p c b.x->FR F l r E c b.x->aq c y b.x->lP s l I E i y=k n->bf n i (jR) c b o->nF n c b z->ao ag.P p (spliced (backTo ai (dQ I r))) o z b
 pl:∀a∈I,Pl a
end
mutual
section
variable {f:w}{s:Tb}{l:j bm}
theorem ap7 bo c_ fW bp cd fX:∃g,v= .bv g/\i g y=k n:=by cases v<;>first|(cases a;done)|exact ⟨_,rfl,a⟩
@[elab_as_elim] theorem Mg aR a7 bo c_ ea fW bp cd{bT:X->Prop}(rv:jG c d v V) fX(m:∀g,i g y=k n->bT eb):bT V:=by obtain ⟨g,rfl,a⟩:=ap7 a;exact rv.fe▸m g a
theorem kI.c3 bX bY(aU:∀r cb,e1 a r cb=(do let v<-cb;fk a.ai;eY [v] (truthy v))):pI f s l a:=by refine bn;intro D p r F E c y b i n o z t K q M e O;exact wpAny_isTrue_value (d.af t K q M (λv V Z ah W tk h g' rv e'=>Mg rv e' λg a=>c5 (e g g Z ah W tk h g' rfl a)) O) (aU _ _)
theorem aci{A:Const} fY aM:kI f s l (.Constant A kd ai):=by refine a8;intro D p r F E c y b i n o z t K q M e O;exact snd_const q M e
theorem acr cE aM bd:kI f s l (.Name h ai):=by refine a8;intro D p r F E c y b i n o z t K q M e O;exact ao3 aK K q M e
theorem acf{Y n:aA}{op:Operator} aM(U:kI f s l Y)(bB:kI f s l n):kI f s l (.BinOp Y op n ai):=by refine a8;intro D p r F E c y b i m o z t K q M e O;refine wpAny_BinOp (U.af t K q M ed O);refine bB.af (b:=aI) aO aP S H fZ aQ;exact ao1 (b:=f0) a3 f1 rb aj f2
@[elab_as_elim] theorem aqD bo f3{B:Q} cF bp cd{bT:cM->Q->Prop}(a:k6 op B i y=k n)(f:∀g,i (.bv ee) y=k n->bT .Not eb)(u:∀L,i (.b7 (-L)) y=k n->bT .USub (.b7 L)):bT op B:=by
 cases op with
 |Not=>cases B with
  |bv g=>exact f g a
  |_=>exact bi a
 |USub=>cases B with
  |b7 g=>exact u g a
  |_=>exact bi a
 |_=>exact bi a
theorem acw bX f3 aM bY:kI f s l (.cM op a ai):=by
 refine a8;intro D p r F E c y b i m o z t K q M e O;refine wpAny_UnaryOp f4;have p1:=e.bM (dW:=t1) ab;clear e O M K t q;revert ra;refine aqD H (λg a ra=>?_) λL a ra=>?_
 ·rw[ra.fe];exact not_value (c5 (p1 _ _ j9 az G t1 cG S ef a))
 ·obtain ⟨as,m⟩:=ra.ofInt;rw[m];exact PyProof.Rows.neg_int (p1 _ _ j9 az G (t1+1) cG S (.b7 _ _) a)
theorem ac5 bX aM(d:pI f s l a):pI f s l (.cM .Not a ai):=by
 refine bn;intro D p r F E c y b i m o z t K q M e O;have M:kg s l a E (λB=>jY B λg=>i ee) y=k m:=by
  have:(λB=>k6 (D:=D) .Not B λv=>jY v i)=λB=>jY B λg=>i ee:=by
   funext B
   cases B<;>rfl
  rw[<-this];exact M
 refine wpAny_isTrue_Not (d.af t K q M f5 O);cases rb;exact e _ _ j9 az G t1 ab S rfl H
theorem acm f6 aM f7(ad:kI f s l g)(a_:kI f s l N):kI f s l f8:=by
 refine a8;intro D p r F E c y b i m o z t K q M e O;refine wpAny_IfExp f9;cases rc;cases A with
 |true=>exact ad.af (b:=aI) aO aP S H a9 aQ
 |false=>exact a_.af (b:=aI) aO aP S H a9 aQ
theorem ac4 f6 aM f7(ad:pI f s l g)(a_:pI f s l N):pI f s l f8:=by
 refine bn;intro D p r F E c y b i m o z t K q M e O;rw[arm_isTrue_IfExp];refine au (bW f9 (λA s1 d=>d) λJ J d=>d);cases rc;cases A with
 |true=>exact ad.af (b:=aI) aO aP S H a9 aQ
 |false=>exact a_.af (b:=aI) aO aP S H a9 aQ
theorem acH:ux f s l []:=⟨λ{D p r F E c y b i m o z ai} t K q M e O=>wpAny_items_nil (e [] [] c y b.x b.bj cG q .bF M),λJ d=>a1 d j.fd⟩
theorem acG bX be bY(bh:ux f s l I):ux f s l fV:=by refine ⟨?_,j.forall_mem_cons.bb ⟨d.pl,bh.pl⟩⟩;intro D p r F E c y b i m o z ai t K q M e O;refine wpAny_items_cons f_ (d.pl.star _ _);refine bh.af (b:=aI) aO aP S H (λvs ws lI cA C t2 x2 a3 j6 aj=>?_) aQ;exact e _ _ lI cA C t2 da a3 (.bx (rv.ext x2) j6) aj
theorem acn be aM ga:kI f s l (.j I ai):=by refine a8;intro D p r F E c y b i m o z t K q M e O;refine wpAny_List gb;obtain ⟨aL,aj⟩:=qw H;have U:vs.ae<=b8:=tD aL;obtain ⟨x2,a3,r2⟩:=S.newList j6 U;exact ⟨by rw[<-j6.ae];exact qo U,e _ _ _ _ _ t1 da a3 r2 aj⟩
theorem aq.Te aR bp a7{Y:j Q} gc fy(rv:jR c d Y vs):
  aq c y gd/\jG c gd (.tup Y) (.ca d.aC.ax):=
 ⟨q.c2 _,.tup (λm=>a1 d9 fI) ⟨_,bs.get?_push_size _ rfl,rfl,_,rfl⟩ (rv.ext (bJ.c2 c d _))⟩
theorem acv be fY aM ga:kI f s l (.Tuple I kd ai):=by
 refine a8;intro D p r F E c y b i m o z t K q M e O;refine wpAny_Tuple gb;cases U:w.ble vs.ae b8 with
 |false=>rw[U] at H;cases H
 |true=>rw[U] at H;obtain ⟨a3,r2⟩:=S.Te j6;exact ⟨by rw[<-j6.ae];exact qo (tD U),e _ _ _ _ _ t1 (ab.ay (bJ.c2 _ _ _)) a3 r2 H⟩
noncomputable def ar2(I:j aA):Prop:=∀a∈I,kI f s l a/\pI f s l a
theorem aie bo cH ge be cc cF:xo s l op gf E i=kg s l a E λv=>jY v λm=>match op,m with
  | .bI,false=>i gg
  | .Or,true=>i gh
  | .bI,true=>xo s l op eg E i
  | .Or,false=>xo s l op eg E i:=rfl
theorem afH fS cH{g:aJ}{i:Q->α}{ap:α}{bK:α->Prop} gi{as u:β}{aq:β->Prop}(a:bK (match (generalizing:=false) op,g with| .bI,false=>i gg| .Or,true=>i gh| .bI,true=>ap| .Or,false=>ap))(G:bK (i eb)->aq as)(C:bK ap->aq u):
  aq (match (generalizing:=false) op,g with| .bI,false| .Or,true=>as|_,_=>u):=by
 cases op<;>cases g<;>first|exact G a|exact C a
theorem acg cH be aM(d:∀a∈I,kI f s l a):kI f s l gj:=by
 induction I with
 |bF=>exact ⟨λJ J J a=>bi a,ec⟩
 |bx a I ih=>
  cases I with
  |bF=>exact ⟨λt K q M e O=>(d a j.b9).af t K q M e O,ec⟩
  |bx e' I=>
   have cu:=ih λh bD=>d h gk;have d:=d a j.b9;clear ih;refine a8;intro D p r F E c y b i m o z t K q M e O;rw[arm_eval_BoolOp];refine au (bW f_ gl λJ J ap=>ap);refine Mg rv H λg H=>au (dX gm);exact afH (bK:=λh:P D=>h az=k m) (aq:=λh=>ao _ _ h o z _) H (λa=>bH (e _ _ j9 az G t1 ab S ef a))
    λap=>cu.af (b:=aI) aO aP S ap a9 aQ
structure ab7(f:w)(s:Tb)(l:j bm)(op:dh)(I:j aA):Prop where
 af:∀{D:Type} {p:aN} {r:aW} {F:j ak} {E:jL} {c:jV} {y:jE} {b:T} {i:aJ->P D} {n:aS Q D×jE} {o:aJ->T->Prop} {z:X->T->Prop},
   kR f p c b.x->FR F l r E c b.x->aq c y b.x->xo s l op I E d_ y=k n->bf n i IJ c b o->nF n c b z->ao ag.P p (allTrue op I r) o z b
theorem aeF cH be gn:ab7 f s l op I:=by
 induction I with
 |bF=>refine bn;intro D p r F E c y b i m o z t K q M e O;cases M
 |bx a I ih=>
  cases I with
  |bF=>
   refine bn;intro D p r F E c y b i m o z t K q M e O;have ap:=(d a j.b9).af t K q M e O;cases op with
   |bI=>exact fn (bW ap (λg s1 G=>by cases g<;>first|exact G|exact wpAny_allTrue_And_nil G) λJ J h=>h)
   |Or=>exact fo (bW ap (λg s1 G=>by cases g<;>first|exact G|exact wpAny_allTrue_Or_nil G) λJ J h=>h)
  |bx e' I=>
   refine bn;intro D p r F E c y b i m o z t K q M e O;have cu:=ih λh bD=>d h gk;rw[aie] at M;cases op with
   |bI=>
    refine fn go;cases rb;cases g with
    |true=>exact cu.af (b:=aI) aO aP S H a9 aQ
    |false=>exact e _ _ j9 az G t1 ab S rfl H
   |Or=>
    refine fo go;cases rb;cases g with
    |false=>exact cu.af (b:=aI) aO aP S H a9 aQ
    |true=>exact e _ _ j9 az G t1 ab S rfl H
theorem ac2 cH be aM gn:pI f s l gj:=by refine bn;intro D p r F E c y b i m o z t K q M e O;exact wpAny_isTrue_BoolOp ((aeF d).af t K q M e O)
end
end
mutual
section
open bt.cJ bt.cK
mutual
section
variable {f:w}{s:Tb}{l:j bm}
theorem SX gp bX de(d:Pl a):e6 [op] [a] (eN [a] r)=[dy a r]:=by show [markedBehindIn op a c8]=_;rw[markedBehindIn_of_false (d.afu _)]
structure Bf(f:w)(s:Tb)(l:j bm)(a6:j ce)(I:j aA):Prop where
 af:∀{D:Type} {p:aN} {r:aW} {F:j ak} {E:jL} {c:jV} {y:jE} {b:T} {i:Q->P D} {n:aS Q D×jE} {o:X->T->Prop} {z:X->T->Prop} {B:Q} {va:X} {ai:b1},
  kR f p c b.x->FR F l r E c b.x->aq c y b.x->jG c b.x B va->EM s l B a6 I E i y=k n->bf n i cC c b o->nF n c b z->ao ag.P p (compareChain ai va a6 gq) o z b
 c3:∀{D:Type} {p:aN} {r:aW} {F:j ak} {E:jL} {c:jV} {y:jE} {b:T} {i:aJ->P D} {n:aS Q D×jE} {o:aJ->T->Prop} {z:X->T->Prop} {B:Q} {va:X} {ai:b1},
  kR f p c b.x->FR F l r E c b.x->aq c y b.x->jG c b.x B va->EM s l B a6 I E d_ y=k n->bf n i IJ c b o->nF n c b z->ao ag.P p (testChain ai va a6 gq) o z b
theorem kR.JA bq aR a7(t:kR f p c d):p.cy+20<dq:=by have:=t.un;omega
theorem MI gr bq cB bZ gc{t:Sem X} eh(d:ao P p t o z b):ao P p (dO vs t) o z b:=λΓ e hΓ=>by rw[Sem.wp_operate];exact d Γ e hΓ
theorem arw gr bq cB bZ{vs dE:j X}{o:Unit->T->Prop}(d:o () b):ao P p (release vs dE) o z b:=λΓ e hΓ=>by rw[Sem.wp_release];exact d
mutual
section
variable {D:Type}{p:aN}{r:aW}{F:j ak}{E:jL}{c:jV}{y:jE}{b:T}{n:aS Q D×jE}{z:X->T->Prop}{B:Q}{va:X}{ai:b1}{a:aA}{op:ce}
theorem EC gi{dl:X->Sem β}{dj:Q->aJ->P D}{o:β->T->Prop}{Q':X->X->T->Prop} bd bY(t:kR f p c b.x)(K:FR F l r E c b.x) cD(ra:jG c b.x B va)
  (M:kg s l a E (λg=>bnd (jN op B g) gs) y=k n)(O:nF n c b z)(eV:∀vb s',ao ag.P p (compareOp op va vb) (Q' vb) z s'->ao ag.P p (dl vb) o z s')
  (m:∀g vb A Z ah W t',bJ c b.x Z W->aq Z ah W->jG Z W g vb->dj g A ah=k n->Q' vb gt {b with x:=W,bj:=t'}):ao ag.P p (eY [va] c8>>=λrv=>fk ai>>=λJ=>dl rv) o z b:=
 au (cz (bW (d.af t K q M (λg vb j9 az G t1 ab S rb H=>au (dX (eV _ _ (ao2 (b:=aI) aK t.JA S (ra.ext ab) rb (i:=λv=>jY v gs) H (λv V lI cA C t2 x2 a3 rv aj=>
  Mg rv aj λA a=>m g vb A lI cA C t2 da a3 (rb.ext x2) a))))) O) (λJ J ap=>ap) λJ J ap=>ap))
end
theorem acd gp bX bd bY:Bf f s l [op] [a]:=by
 refine ⟨λt K q ra M e O=>?_,λt K q ra M e O=>?_⟩
 ·rw[SX d.pl];exact EC aK d t K q ra M O (λJ J ap=>MI ap) λg vb A j9 az G t1 ab S rb H=>e _ _ j9 az G t1 ab S gt H
 ·rw[SX d.pl];exact EC aK d t K q ra M O (λJ J ap=>au (MI ap)) λg vb A j9 az G t1 ab S rb H=>cz (c5 gw)
theorem ab_{op op':ce} ei ge be bd bY(bh:Bf f s l (op'::a6) eg):Bf f s l (op::op'::a6) gf:=by
 refine ⟨λ{D p r F E c y b i n o z B va ai} t K q ra M e O=>?_,λ{D p r F E c y b i n o z B va ai} t K q ra M e O=>?_⟩
 ·refine EC aK d t K q ra M O gx λg vb A j9 az G t1 ab S rb H=>au gy;cases A with
  |true=>exact bh.af (b:=aI) aO aP S rb H a9 aQ
  |false=>exact bH (e _ _ j9 az G t1 ab S ef H)
 ·refine EC aK d t K q ra M O gx λg vb A j9 az G t1 ab S rb H=>au gy;cases A with
  |true=>exact bh.c3 (b:=aI) aO aP S rb H a9 aQ
  |false=>exact bH gw
theorem ach gz ei be aM gA gB:kI f s l gC:=by refine a8;intro D p r F E c y b i n o z t K q M e O;rw[arm_eval_Compare];refine au ej;exact bh.af (b:=aI) aO aP S ra H a9 aQ
theorem ac3 gz ei be aM gA gB:pI f s l gC:=by refine bn;intro D p r F E c y b i n o z t K q M e O;rw[arm_isTrue_Compare];refine au ej;exact bh.c3 (b:=aI) aO aP S ra H a9 aQ
theorem oR.find aR a7 cE dc{I:j er}(K:oR c d av I):(match lk av h with
  |k v=>∃cV,I.cW ek=k cV/\jG c d v cV.val
  |none=>I.cW ek=none)/\I.any (·.refKey)=false:=by
 induction K with
 |bF=>exact ⟨rfl,rfl⟩
 |@bx aH v as V av I B g ih=>
  refine ⟨?_,ih.2⟩;have ih:=ih.1;rw[Ck] at ih⊢;rw[show j.aF h ((aH,v)::av)=match h==aH with|true=>k v|false=>av.aF h from rfl,
   show j.cW (λa=>a.key.isStr h) ((gD:er)::I)=match aH==h with|true=>k gD|false=>I.cW ek from rfl,BEq.comm (B:=aH)]
  cases m:h==aH with
  |true=>exact ⟨_,rfl,B⟩
  |false=>exact ih
theorem R4 cI{aa:ak}{ob:Obj} gE(bu:vO A aa ob):ob=e0 A aa:=by
 unfold vO at bu
 split at bu
 ·exact a1 rfl aT.1
 ·exact a1 rfl aT.2
 ·exact bu
theorem lg.E5 aR a7 cI dc em gG{aX:ak×cf ak->Prop}
  (m:∀{B aa N I f},d.a4 B=k N->vO A aa N->d.a4 aa=k ⟨.cx "dict",none,.dw (j.cw I) f,#[]⟩->oR c d av I->av.ae<=100->aX gH):aX e:=by
 cases n with
 |dD cN bu cO cP ez=>exact m cN bu cO cP ez
theorem Ks aR a7 cI dc{B aa:ak} gE(n:lg c d gF gH):
  ∃I f,eu d B gI A gJ/\oR c d av I.fl:=
 n.E5 (aX:=λe=>∀aa,e.2=k aa->∃I f,eu d e.1 gI A gJ/\oR c d av I.fl) (λcN bu cO cP J aa a=>by cases a;exact ⟨_,_,⟨R4 aT bu▸cN,rfl,rfl,cO⟩,cP⟩) aa rfl
theorem lg.Ku a7 aR cI dc em gK gG(m:∀aa,e.2=k aa->aX):aX:=
 n.E5 (aX:=λe=>(∀aa,e.2=k aa->aX)->aX) (λJ J J J J m=>m _ rfl) m
theorem PK cI cE(d:mT A h nO=true):A≠38/\A≠39:=by
 have key:∀Y:j (w×bL),(∀e∈Y,e.1≠38/\e.1≠39)->mT A h Y=true->A≠38/\A≠39:=by
  intro Y;induction Y with
  |bF=>intro _ d;cases d
  |bx e Y ih=>
   intro U d;obtain ⟨aa,aH⟩:=e;unfold mT at d;cases m:w.beq A aa with
   |true=>rw[w.eq_of_beq_eq_true m];exact U _ j.b9
   |false=>rw[m] at d;exact ih (λe am=>U e (j.dL _ am)) d
 refine key nO ?_ d;intro e am;simp only [nO,j.dK,j.fd,or_false] at am;rcases am with rfl|rfl|rfl|rfl|rfl|rfl|rfl|rfl|rfl|rfl|rfl<;>exact ⟨br,br⟩
theorem jG.eX aR a7 c_ ea(n:jG c d v V):handedIn V=true:=by
 induction n using jG.casesOn with
 |g7 g a=>rw[a];clear a;cases g<;>first|rfl|decide+kernel
 |_=>rfl
theorem aiM bo bq aR bp bZ cF cd gL c_ ea cE{expr:aJ} bd cD gM
  (a:bnd (kF v h) i y=k n) gN:ao ag.P p (getAttr V h expr) o z b:=by
 refine nR a λu G H=>jZ G λt b4 C=>jZ C λA aT aB=>lM aB λhat U=>?_;clear a G C aB;rw[qj b4] at rv;obtain ⟨⟨B,aa⟩,rfl,am⟩:=rv.ofObj;obtain ⟨N,a_,ro⟩:=q.obj am;replace ro:lg c b.x (.dD A.1 A.2) (B,aa):=cf.k.inj (a_.symm.ay (JB aT))▸ro;refine ro.Ku λd' a5=>?_;clear rv am;cases (show aa=k d' from a5);obtain ⟨es',n',et,eO⟩:=Ks (PK hat) ro;obtain ⟨cl,g_⟩:=eO.find (h:=h);rw[U] at cl;obtain ⟨cV,cl,mR⟩:=cl;have vh:=aK.attr A.1 h hat;refine get_value (aK.rI.dF q.cg) et (plainGet_of vh.n5).1 (findObj_own vh.a5 vh.ha rfl ?_) mR.eX (e _ _ c y b.x gO cG q mR H);show e3 h _=_;unfold e3;dsimp only;rw[cl]
theorem ace bX cE aM bd bY(ad:∀r cb,attributeBase a h r cb=cb):kI f s l (.Attribute a h ai):=by refine a8;intro D p r F E c y b i n o z t K q M e O;rw[arm_eval_Attribute,ad];refine au ej;refine au (dX (au (cz ?_)));refine aiM (b:=aI) aK S ra H ((e.bM ab).mono λv s' m=>?_);exact au (fp (bH m))
end
end
mutual
section
open bt.cJ bt.cK
mutual
section
variable {f:w}{s:Tb}{l:j bm}
theorem apx(a0:aA)(N L:X):dR a0 false N L=dO [N,L] en\/dR a0 false N L=dO [L,N] en:=by
 cases a0 with
 |Slice lo bA st e=>cases st with
  |none=>exact .inr rfl
  |k st=>exact .cr rfl
 |_=>exact .cr rfl
theorem CN bq bZ cB gP{N L:X}{Ty cq:String} eh(cn:b.TypeIs N Ty)
  (U:typeLookup (.cx Ty) "__getitem__"=pure (k (.builtin cq)))(d:ao ag.P p en o z b):ao ag.P p (cv bV a0 N L) o z b:=by
 unfold cv;refine au ?_;rw[getitemInPython_of_ne cn.not_modules];refine au (wpAny_specialOf cn U ?_);have bQ:ao ag.P p (dR a0 false N L) (λn dT=>ao ag.P p (letTemporaryGo bV N n>>=λJ=>pure n) o z dT) z b:=by rcases apx a0 N L with m|m<;>rw[m]<;>exact MI (bW d (λn dT h₃=>au (fp (bH h₃))) λJ J h=>h)
 first
  |exact bH gR
  |exact au (bH gR)
  |exact au bQ
theorem e_(aE f:w):ar.e9 aE+f=eo -(aE+1:w):=ar.add_comm _ _
theorem F7 dd ep gS:e<f/\((0<=i/\i.dV=e)\/(i<0/\ -eo<=i/\(i+f).dV=e)):=by
 cases i with
 |ofNat aE=>
  have d:(match w.blt aE f with|true=>k aE|false=>none)=k e:=d;cases m:w.blt aE f with
  |false=>rw[m] at d;exact bi d
  |true=>rw[m] at d;cases d;exact ⟨w.eE.mp m,.cr ⟨ar.natCast_nonneg _,rfl⟩⟩
 |e9 aE=>
  have d:(match w.blt aE f with|true=>k (f -gT)|false=>none)=k e:=d;cases m:w.blt aE f with
  |false=>rw[m] at d;exact bi d
  |true=>rw[m] at d;cases d;have m:=w.eE.mp m;exact ⟨w.sub_lt (w.e4 (w.zero_le aE) m) (w.succ_pos aE),.inr ⟨ar.negSucc_lt_zero _,ar.fa (ar.dM.bb (m:aE+1<=f)),(cT ar.dV (e_ aE f)).ay (ar.toNat_sub f gT)⟩⟩
theorem T6 dd ep gS(aV:f<=b8): -(2^63)<=i/\i<2^63:=by
 obtain ⟨G,d⟩:=F7 d;have hn':eo<=1000000:=ar.dM.bb aV;obtain ⟨C,aB⟩|⟨C,aB,_⟩:=d
 ·exact ⟨ar.aZ br C,ar.e4 (ar.aZ (ar.fm C▸aB.symm▸ar.dM.bb (w.c1 G):i<=f) hn') br⟩
 ·exact ⟨ar.aZ (ar.aZ br (ar.fa hn')) aB,ar.lt_trans C br⟩
theorem aiO bq bZ cB{Y:ak}{cs:j X} dd{as:Tok}{e:w}{h:X} eh(U:b.x.ew Y cs.cw)(bE:cs.ae<=b8)
  (am:ct i cs.ae=k e)(bD:cs[e]?=k h)(d:o h b):ao ag.P p (eT (.ca Y) (.b7 i as)) o z b:=by
 have ad:=T6 am bE;obtain ⟨G,⟨C,aB⟩|⟨C,aB,b2⟩⟩:=F7 am
 ·exact wpAny_getItem_list U C ad.2 (aB.symm▸j.eR.ay bD) d
 ·exact wpAny_getItem_list_neg U C aB ad.1 (b2.symm▸j.eR.ay bD) d
theorem aou dd ep(am:ct i f=k e):fi i f=k e:=by
 obtain ⟨G,⟨C,aB⟩|⟨C,aB,b2⟩⟩:=F7 am
 ·unfold fi;have al:i<f:=ar.fm C▸ar.ofNat_lt.bb (aB.symm▸G);rw[if_neg (ar.fc.bb C),if_pos (aJ.and_eq_true_iff.bb ⟨eJ C,eJ al⟩),aB]
 ·rw[seqIndex_neg C aB,b2]
theorem ait aR a7 gW{xs:j (j (bL⊕ar)×ak×X)}{h v:Q}(ke:KE c d I xs)(a:ob (pL I h) gX=k v)(al:(c0 h||Fe h)=true):c0 h=true:=by
 rcases aJ.ff.mp al with al|al
 ·exact al
 ·cases h with
  |str b=>
   induction ke with
   |bF=>exact bi a
   |bx=>exact bi a
  |_=>exact ft_ al
mutual
section
variable {D:Type}{p:aN}{c:jV}{y:jE}{b:T}{o z:X->T->Prop}{L u:Q}{wi:X}{bV a0:aA}{Y:j Q}{B:ak}{us:j X}
theorem PG a7 gK(rs:jR c d Y us)(pg:jG c d L wi) g0(m:∀i as e nK,wi= .b7 i as->ct i us.ae=k e->us[e]?=k nK->jG c d u nK->aX):aX:=
 jZ a λi al a=>jZ a λe am a=>by rw[qO al] at pg;obtain ⟨as,bC⟩:=pg.ofInt;obtain ⟨nK,G,C⟩:=rs.get e u a;exact m i as e nK bC (rs.ae▸am) G C
theorem aiR(A:IsTup b.x B us.cw) g1 df(a:ob gY (λi=>kX (w.ble Y.ae b8) (ob gZ λe=>Y[e]?))=k u) eq:
  ao ag.P p g3 o z b:=by
 refine jZ a λi al H=>lM H λbE aj=>PG rs pg ((j7 al).ay aj) λi as e nK b6 am G C=>?_;rw[b6];have ad:=T6 am (rs.ae▸tD bE);exact CN A.c4 slot_tuple_getitem.aF (getItem_tuple A ad.1 ad.2 (by simpa using aou am) (by simpa using G) g4)
theorem aiQ(A:b.x.ew B us.cw)(bE:Y.ae<=b8) g1 df g0 eq:
  ao ag.P p g3 o z b:=
 PG rs pg a λi as e nK b6 am G C=>b6▸CN A.c4 slot_list_getitem.aF (aiO A (rs.ae▸bE) am G g4)
theorem aiN gW em g5(ro:lg c b.x (.dw I) e) df(al:(c0 L||Fe L)=true)(a:ob (pL I L) gX=k u) eq:
  ao ag.P p (cv bV a0 (.ca e.1) wi) o z b:=by
 have aL:pL I L=k (k u):=jZ a λN G C=>G.ay (cT k C);cases ro with
 |vH eG bN bw cj=>
  rcases aJ.ff.mp al with al|al
  ·obtain ⟨Y,kk,U,_⟩:=Fb al;exact (Q7 eG bN (U▸aL)).dx
  ·cases L with
   |str h=>obtain ⟨as,bC⟩:=pg.ofStr;obtain ⟨nK,G,C⟩:=cj h u aL;exact bC▸CN bw.c4 fj.aF (wpAny_getItem_of (strKind_is ag.prog ag.V h as) bw G (d nK gO C))
   |_=>exact ft_ al
 |@uJ _ _ xs bN bw cj=>obtain ⟨Y,kk,bA,U⟩:=Fb (ait bw a al);rw[bA] at pg aL;obtain ⟨pp,G,C⟩:=(Q6 U bw aL).1 _ rfl;obtain ⟨g,vs,b6,eC,eD,lK⟩:=pg.sF;rw[b6];exact CN bN.c4 fj.aF (wpAny_getItem_heap (by show p.cy+1<dq;omega) (jG.c0 U (.tup eC eD lK)) bN G (d _ _ C))
end
theorem aiP bo bq aR bp bZ cF cd gL{v L:Q}{V wi:X} gP bd g5 cD
  gM df(a:bnd (jT v L) i y=k n) gN:ao ag.P p (cv bV a0 V wi) o z b:=by
 refine nR a λu b3 H=>?_;have bQ:∀nK tk,jG c b.x u nK->o nK g2:=λnK tk mR=>e _ _ c y b.x tk cG q mR H;clear a H e;unfold Ro at b3;rcases aw:tC v with _|Y
 ·rw[aw] at b3;refine jZ b3 λf aV EZ=>?_;rw[qj aV] at rv;rcases U:l_ y f with _|Y
  ·rw[U] at EZ;refine jZ EZ λI a5 ajl=>lM ajl λal ajm=>?_;obtain ⟨m,rfl,am⟩:=rv.ofObj;obtain ⟨N,a_,ro⟩:=q.obj am;exact aiN eZ (cf.k.inj (a_.symm.ay (EF a5))▸ro) pg al ajm bQ
  ·rw[U] at EZ;obtain ⟨B,us,rfl,_,bN,bw,cj⟩:=q.lst rv (qz U);exact aiQ bN.isList cj bw pg EZ bQ
 ·rw[aw] at b3;rw[By aw] at rv;obtain ⟨B,us,rfl,_,A,rs⟩:=rv.sF;exact aiR A rs pg b3 bQ
noncomputable abbrev OZ gU gV(a L:aA)(ai:b1):Prop:=∀bo cc cF,kg s l g6 E i=kg s l a E λv=>kg s l L E λaE=>bnd (jT v aE) i
theorem acu{a L:aA} aM bd(aU:kI f s l a)(bA:kI f s l L)(aV:OZ s l a L ai):kI f s l g6:=by refine a8;intro D p r F E c y b i n o z t K q M e O;rw[aV] at M;refine Subscript_ (aU.af t K q M ed O);refine bA.af (b:=aI) aO aP S H fZ aQ;exact aiP (b:=f0) aK t.JA a3 f1 rb aj f2
end
end
end
mutual
example _ e h s some a p List t Q b k E c ρ x heap vs n r l u v σ m o[by decide]Nat g w Option i T q M hn f C Int A rv Value ζ K jD hd hi h' inj d size s' xs _ _ _ _ _ _ _ _ _ _ _ h1 lo ac length ht F I P h2 hb X toArray PySem e1 objs wpAny hc hm env «at» e2 ha{n:jV}Shared ns_ pos z hp hz j R e3 list bnd hF hx{w:jE}D O hl hs int ρ' call hf hq map{b:aX}ref Heap hI hk kitOne nil toks trans elim es forall_mem_cons run{v:R}(B:bP n w c.p)Expr cons ev g2 type g1 hj ho hv{Q:Frag}H c2 hp2 if_pos mpr part{M:cr}{c:ax}(f:cZ s k (jG) n c i)[Mm h]Addr Looks Pos cs cut «by» obj wpAny_bind{aE:Type}{k:R->H aE}[.aW m]{C:O}σ' W c1 fr hw keeps sum{s:ct R aE×jE}us' Bool G after builtin dropLast size_toArray s₁{h:A}[sD h W]{G:bO}[(·.1)]{q:g R}[.aW e]Str all apos casesOn d2 fs hr if_neg le_trans{i l:O->ax->Prop}(ag:HT Q){t:g R}{ws:g O}(aM:IQ r F)Calls Ext Sem SeqAt base d1 e4 hu σ2(aL:q6 F)[.aW W][b1×kN]hz' Around Array Except String backTo bool cls fin fn gd get? glob he i1 i2 kitCls le_refl lim push res subIn take wpAny_pure[⟨_,bg,rfl⟩]{q:g O}{e:bt}[by simp][k=dF.frame\/k=dF.c_\/k=dF.boundFrame][backToKw az (keywordEach [] as)](jK:nF s n c l)(av:ux r F ak args)InLong InstAt IsPart Post Z bn c3 callWith congrArg f1 fastBuiltinMro hH inst kitMeta machine mem_cons_self methodCallPos numAt ofNat of_pure preSum small starEach update wpAny_mono[.aG t][{cx:= .bd "slice",data:= .fields #[wa,wb,q1]}][x.ext x1][jK.bQ x1]«do»[x1.a3 x2][Ml h]{W:A}{m:A}[by decide+e7][Ml W][.bd du](s:jR n b t q){b U:aX}{az:bv}[dh a5 as][cv az (dh args as)](aB:n[x]?=d (e,none))(bH:ng c.p e us.al)(bk:jR n c.p t us)(aN:(b3.endLine==az.line)=true)Keeper KitX all_eq_true alloc calleeOf cc contains dropLast_eq_take ea eq_of_beq eval f2 false_ne_true fe forall_mem_singleton getLast? getLast?_eq_getElem? getMethod_builtin hh isAny keepIn keeperOf keeps_K kitAny min_eq_left natCast_nonneg negSucc plainAttrs_list same setGen spliced star stuck whole{e j m:D R}[jG][⟨?_,⟨λP P=>rfl,λP=>rfl⟩⟩][{c with p:=aa,a2:=t1}][{c with p:=ai,a2:=t2}](k:∀j y,b.cB j=d y->U.cB j=d y)[TY aL z]{h:cu}[.bd h][[82,104,125,146,181]](aq:m∈el)[.bd m]{H:Model}[eQ q.al.X]{l:O->ax->Prop}[dc Z.al][(t.ad:L)][[.aW e]][D.d.V b▸ .aP _ _][.inl rfl][x q]{a5:g a_}{as:Env}(rP:kR r M n c.p)(N:jR n c.p q ws){J:R}(a:aH (tE F J q) k w=d s)[d0 C][.Call J args [] az][bI.ext x1]{o:b1}[-1](x:kR r M n c.p)(bI:FR bG ak as jF n c.p)[lQ F v o q]SameBut a2 and_eq_true_iff bd call_meets clipAt d3 eraseIdxIfInBounds evalArgs fl g0 g3 h0 h3 h4 hD hL handled i3 i4 i5 intItems kernel le_of_lt le_succ_of_le length_map lookIn max_eq_right methodCallForm min_eq_right negSucc_lt_zero not_lt not_mem_nil ofNat_inj ofNat_le of_decide_eq_true plainGet_of reverse size_after_update size_push slicePick slot_list_extend slot_list_pop sub_le sumInts sum_bound toList wpAny_holding{e k r:A}{t l':g R}(a:lP F ak args jF (λq=>aH (lQ F (.bz E) o q) k) w=d s)[holding [C] (dJ true y as C o)>>=λG=>match G with|(J,first)=>db true y as b3 az>>=λJw=>c3 Jw J first dA cT][fv ?_][JB aq][qz aT][D.d.V (Ke.symm.a3 fC)▸LO][f.bQ x2][.c8 m b6][f.bQ x1][dI dk](N:jG n c.p v C)[k+1][λv C j9 σ1 aa t1 x1 be N an=>?_][x.ext dp][jK.bQ dp]{o:bt}(E:L)(r:A)[[82,104,125,58]](B:bP n w b)(N:jG n b v C){t:g O}[λv=>match v with| .bd _=>true|_=>false](ae:h∈["NoneType","bool","int","str","tuple","list"])(ab T:D L){h:O}{m:cu}[[1,2,3]][λG=>nomatch dO G](ae:h∈fQ)[["int","bool","str"]][.aW h][λP b=>b][Mine.Internal.bx t ab T]{v m:R}{Γ:Ctx}{f:bv}{h:cg Fin}{b6:g Frame}{c Y:ax}{a:End}{α:Type}[⟨I,b⟩][A.cH _](aC:b.ao.X<=U.ao.X)[B.ci j y a]{bw:g R}[{c with a2:=tk}][L.fi.bn aA][aL.rI.bK B.ci][aqm N ty][λf=>O.aP f.1 f.2][∀f∈Z,dg f.1=true][L×Tok](b:aX)[b e g.da]{e:L}(dX:M.e2=none)[{c with p:=U,a2:=tk}](s:jR n b q ws)[L.d4 k](j6:jR n c.p q ws)[j8 j q][(c.p.ao.X,none)][n++[gy]][am.aR b0 ws](b:∀a∈a5,Pl a)[.tail _ cD][d0 J][cv az dz]{x:g R->H R}(af:oH r e x)(a:aH ew k w=d s)[tE F J q][.cC e][match lW F.af E with|d x=>k9 e x q|none=>ea][match lW F.af e with|d x=>x q|none=>ea][aR C ws][⟨?_⟩]{args:g a_}[λv s1 aA=>aA][.refl _ _][b.di e (Obj.mapSeq J)]{a:a_}(aJ:(j4 o lJ||(j4 o m6||j4 o pB))=true)[lm o][.bR gU]{ah:Prop}[(e,none)][t++[v]][(by rw[g.length_append];exact aj)][L.d4 r][t++l'][ab.aU .aP][⟨_,an,rfl⟩][⟨n1,an⟩](c2:t.ad<=cI)[sp_ a λan au=>an▸au▸e']{ab:D L}[.bz E](N:jG n c.p g8 C)id:True:=x
mutual
section
open am.ce am.ch
theorem afU fw(b:(e:L)=max 0 (min (k:L) r)):e=min k r:=by
 rcases A.le_total k r with aA|aA
 ·rw[L.d3 gj,L.fb gv] at b;rw[A.d3 aA];exact L.fh.mp b
 ·rw[L.fd gj,L.fb g0] at b;rw[A.fd aA];exact L.fh.mp b
theorem afT fw(b:(e:L)=max 0 (min (L.d5 k+r) r)):e=r -fJ:=by rw[neg_add,L.d3 (L.sub_le_self _ (L.d4 _)),L.max_comm,<-L.toNat_eq_max] at b;exact (L.dd.V b).a3 (L.toNat_sub r fJ)
theorem af9 fO fP:eQ r E=clamp E r:=by
 have b:=clipAt_cast r E;cases E with
 |dd k=>rw[b8 (show ¬(L.dd k)<0 from L.ff.bn gv)] at b;exact afU b
 |d5 k=>rw[bm (L.fe _)] at b;exact afT b
theorem ass(t:g R) fW:(bx t ab T).ad<=t.ad:=
 A.b9 (g.length_take_le' _ _) (by rw[g.length_drop];exact A.fr _ _)
theorem jR.bx aw aV cb cP dw fW:
  jR n b f5 (fo q.al ab T none).fu:=by
 rw[slicePick_plain];have:Mine.Internal.bx t ab T=(t.drop (ab.a4 0 ep)).cM (T.a4 q.al.X ep -ab.a4 0 ep):=by cases ab<;>cases T<;>simp [Mine.Internal.bx,D.a4,af9,s.ad]
 rw[this];simpa using (s.drop _).cM _
mutual
section
variable {r:A}{F:Tb}{ak:g cp}
noncomputable def bo(n:jV) gp(y:D R)(C:O):Prop:=match y with|d v=>jG n b v C|none=>C= .none
theorem T3{y:D R} bE{n aQ:jV} dx(o:cf n b aQ U):bo n b y C->bo aQ U y C:=by
 cases y with
 |none=>exact g_
 |d v=>exact jG.ext o
structure yN(r:A)(F:Tb)(ak:g cp)(y:D a_):Prop where
 a7:∀{aE:Type} {M:cr} {as:Env} {bG:g bt} {jF:jL} {n:jV} {w:jE} {c:ax} {k:D R->H aE} {s:ct R aE×jE} {i l:O->ax->Prop},
  kR r M n c.p->FR bG ak as jF n c.p->bP n w c.p->EO F ak y jF k w=d s->cZ s k (bo) n c i->nF s n c l->ap K.H M (evalPart y as) i l c
theorem acN:yN r F ak none:=by refine gN;intro aE M as bG jF n w c k s i l x J B bb f jK;rw[evalPart_none];exact cN (f none _ n w c.p c.a2 gQ B rfl bb)
theorem acO gS(b:kI r F ak a):yN r F ak (d a):=by refine gN;intro aE M as bG jF n w c k s i l x J B bb f jK;rw[evalPart_some];exact b.a7 x J B bb (λv C aQ bF U tk o g' N a=>f (d v) C aQ bF U tk o g' N a) jK
inductive Ei(t:g R):D R->D R->D R->g R->Prop
 |bx (ab T:D L):Ei t g2 (T.aU .aP) none (bx t ab T)
 |rev:Ei t none none (d (.aP eH)) t.fl
theorem Ub{e:D R} g7(a:xU e=d ab):e=ab.aU .aP:=by
 cases e with
 |none=>cases a;rfl
 |d v=>cases v with
  |aP E=>cases a;rfl
  |_=>cases a
theorem aoR fx ec(a:LZ t e j m=d l'):Ei t e j m l':=by
 cases m with
 |none=>
  have a:(match xU e with|d ab=>(match xU j with|d T=>d f5|none=>none)|none=>none)=d l':=a;cases av:xU e with
  |none=>rw[av] at a;cases a
  |d ab=>cases aj:xU j with
   |none=>rw[av,aj] at a;cases a
   |d T=>rw[av,aj] at a;cases a;rw[Ub av,Ub aj];exact .bx ab T
 |d v=>cases v with
  |aP E=>
   unfold LZ at a;dsimp only at a;cases e with
   |d _=>cases a
   |none=>cases j with
    |d _=>cases a
    |none=>cases T:decide (E= -1) with
     |false=>rw[T] at a;cases a
     |true=>rw[T] at a;cases a;rw[fj T];exact .rev
  |_=>cases a
theorem aoU bB{y:D (g R)} bC aK bM(a:(match y with|d t=>aH fH k|none=>ea) w=d s):∃l',y=d l'/\aH (dI (.aG l')) k w=d s:=by
 cases y with
 |none=>cases a
 |d l'=>exact ⟨l',rfl,a⟩
theorem z_ aw aV g7 bE(f:bo n b g2 C):cY C ab:=by
 cases ab with
 |none=>cases f;exact .none
 |d E=>cases f;exact .aP _ _
theorem aoV aw aV fx ec{wa wb q1:O} cP(f:Ei t e j m l'):bo n b e wa->bo n b j wb->bo n b m q1->jR n b t q->
  ∃ab T st,cY wa ab/\cY wb T/\cY q1 st/\st≠d 0/\jR n b l' (fo q.al ab T st).fu:=by
 induction f with
 |bx ab T=>exact λra rb rc rs=>⟨ab,T,none,z_ ra,z_ rb,z_ (ab:=none) rc,nofun,rs.bx ab T⟩
 |rev=>exact λra rb rc rs=>⟨none,none,d eH,z_ (ab:=none) ra,z_ (ab:=none) rb,z_ (ab:=d eH) rc,z,by rw[krv_pick];exact rs.fl⟩
theorem aoS bB bp aw aK bq bC bM b_ a8{C wa wb q1:O} ec{value slice:a_} a9
  fI(ra:bo n c.p e wa)(rb:bo n c.p j wb)(rc:bo n c.p m q1)
  (a:lY v e j m k w=d s) br:
  ap K.H M (subscriptTail value slice C (.aW c.p.ao.X)) i l {c with p:=c.p.cJ dl}:=by
 obtain ⟨t,la,q,rfl,aa,ai,e',aC⟩:=B.ry N a;clear a N;obtain ⟨l',an,au⟩:=aoU e';clear e';obtain ⟨ab,T,st,pa,pb,pc,p0,r1⟩:=aoV (aoR an) ra rb rc ai;obtain ⟨aS,aF⟩:=qw au;clear ra rb rc au an;have x0:=cf.cJ n c.p dl;have hsl:=aX.IsSliceOf.new c.p wa wb q1;have eV:=B.cJ dl;have EW:=aa.cJ dl;obtain ⟨x2,bc,r2⟩:=eV.newList (r1.ext x0) (tD aS);refine CN EW.typeIs slot_list_getitem.lookup (wpAny_getItem_list_slice EW hsl pa pb pc p0 (f _ _ _ _ _ c.a2 (x0.a3 x2) bc r2 aF) ?_);rw[g.bT,<-ai.ad];exact qo aC
theorem acs gS{ab T st:D a_}{G az:bv}(cD:kI r F ak a)(hlo:yN r F ak ab)(hhi:yN r F ak T)(hst:yN r F ak st):kI r F ak (.Subscript a (.Slice ab T st G) az):=by refine ee;intro aE M as bG jF n w c k s i l x J B bb f jK;refine Subscript_ (cD.a7 x J B bb fK jK);refine wpAny_Slice ?_;refine hlo.a7 (c:=ef) dm (J.ext x1) be an (λe wa lI cm ai t2 x2 bc ra au=>?_) dn;refine hhi.a7 (c:=eg) fL (J.ext dp) bc au (λj wb qK σ3 eY t3 x3 eW rb aF=>?_) fM;have mh:=(x1.a3 x2).a3 x3;refine hst.a7 (c:={c with p:=eY,a2:=t3}) (x.ext mh) (J.ext mh) eW aF (λm q1 VW MO eZ t4 x4 mV rc ck=>?_) (jK.bQ mh);exact aoS (c:={c with p:=eZ,a2:=t4}) mV (N.ext ((x2.a3 x3).a3 x4)) (T3 (x3.a3 x4) ra) (T3 x4 rb) rc ck (f.bQ (mh.a3 x4))
end
end
mutual
section
open am.ce am.ch
mutual
section
variable {r:A}{F:Tb}{ak:g cp}
theorem ajW dx fN{ox:Obj}{m:bt}{od:D Obj}(ag:cX b o ox m od) eh:cX U o ox m od:=by obtain ⟨e,j,dK,W⟩:=ag;refine ⟨k _ _ e,j,dK,?_⟩;obtain ⟨oc,Lh,F3,osl⟩:=ox;clear e j dK;cases Lh<;>cases od<;>first|exact W|exact k _ _ W
noncomputable def Ml:A->cu
 |0=>"NoneType"
 |1=>"bool"
 |2=>"int"
 |3=>"str"
 |4=>"tuple"
 |_=>"list"
noncomputable def Mm(h:A):O:=match A.ble h 5 with
 |true=> .bd dq
 |false=> .aW h
theorem TY aV dr fN{ox od:Obj} cn(S:W∈fQ)(ag:cX b o ox W (d od)):∃bj:aX->Prop,dG K.Q (.aW o) co bj/\bj b:=
 let ⟨e,j,m,a⟩:=aL.xE.own _ S
 ⟨_,kitx_own e j m aL.xE.get.1 aL.xE.get.2 a,ag⟩
theorem Vi aw aK aV a8 bE bV cn fR fS:sM w v=d h->∃bj:aX->Prop,dG K.Q C bs bj/\bj b:=by
 induction N using jG.b4 with
 |none=>exact λa=>D.d.V a▸⟨_,kitx_none,trivial⟩
 |cw j=>exact λa=>D.d.V a▸⟨_,kitx_bool,trivial⟩
 |aP E=>exact λa=>D.d.V a▸⟨_,kitx_int,trivial⟩
 |str c=>exact λa=>D.d.V a▸⟨_,kitx_str,trivial⟩
 |tup e j m=>exact λa=>j.a4 λy j=>D.d.V a▸⟨_,kitx_tuple,⟨y,j.1,j.2.1⟩⟩
 |cC _=>
  exact λa=>lM a λb a=>by rw[A.eq_of_beq_eq_true b,<-D.d.V a];exact aL.a1.a4 λox ag=>ag.a4 λod ag=>TY aL z (ajW ag B.ci)
 |bz aB=>
  obtain ⟨y,bg,ro⟩:=B.bz aB;show CS w[_]?=d h->_;rw[bg];induction ro with
  |aG e j m=>exact λa=>e.a4 λP bg=>D.d.V a▸⟨_,kitx_list,cO⟩
  |@c8 m ob W e b6 a5 r cE cF e3 e4 e5=>intro a;refine lM a λS a=>?_;rw[<-D.d.V a];obtain ⟨a5,n',ag,_⟩:=Ks (Fd (ah:=λm=>m≠38/\m≠39) S z z z) (.c8 cE cF e3 e4 e5);exact Fd (ah:=λm=>cX b W (instObj m e) m _->∃bj:aX->Prop,dG K.Q co (Mm m) bj/\bj b) S ei ei ei ag
  |_=>exact λa=>ay a
 |_=>exact λa=>ay a
theorem alX bi ej fT ds(a:c6 h=d t)(b:t.dL bD=false):cL Q ek bD=d false:=by show (c6 h).aU _=_;rw[a,D.map_some,b]
theorem aeG fT(b:t.b2 fU=true)(m:A):t.dL bD=false:=by rw[bO.eq_false_iff];intro G;rw[g.contains_iff_exists_mem_beq] at G;obtain ⟨e,av,aj⟩:=G;have:=g.dH.mp b e av;rw[<-dO aj] at this;cases this
theorem apv bi ej ds fV:cL Q ek bD=d false:=by
 have key:∀t':cu,((c6 t').aU λt=>t.b2 fU)=d true->cL Q (.bd t') bD=d false:=by intro t' b;obtain ⟨t,aa,ai⟩:=D.map_eq_some_iff.mp b;exact alX aa (aeG ai m)
 simp only [g.mem_cons,g.fg,or_false] at ae;rcases ae with rfl|rfl|rfl|rfl|rfl|rfl<;>exact key _ dt
theorem apZ:([0,1,2,3,4,5].b2 λh=>[1,2,3].b2 λW=>(!(O.bd dq==O.bd du)||sD h W)&&(c9 du&&decide ((c6 dq).aU (·.dL dv)=d bW)))=true:=by decide+e7
theorem Fx bi{h m:O} bX(aa:(h==m)=true->G=true)(ai:cG Q h m=d G):a0 Q h m=d G:=by
 unfold a0;cases b:h==m with
 |true=>rw[bm rfl,aa b]
 |false=>rw[b8 bO.dR];exact ai
theorem P8 bi fX ds bX ca em(b:cL Q h bD=d G):cG Q h bD=d G:=by obtain ⟨e,j⟩:=ag.cx m aq;unfold cG;dsimp only;rw[bm (by rw[e,j];decide)];exact b
theorem Vk bi fX fY bX(aq:c9 m=true)(b:cL Q h en=d G):cG Q h en=d G:=by unfold cG;dsimp only;rw[bm aq];exact b
theorem yY bi{h W:A}(ae:h∈[0,1,2,3,4,5])(S:W∈fZ):a0 Q (.bd dq) dv=d bW:=by obtain ⟨e,j⟩:=bO.eN.mp (g.dH.mp (g.dH.mp apZ h ae) W S);obtain ⟨j,m⟩:=bO.eN.mp j;exact Fx (λG=>by rw[G] at e;exact e) (Vk j (fj m))
theorem afs bi ej ds ca fV em:a0 Q ek bD=d false:=
 Fx f0 (P8 ag aq (apv ae))
theorem afR bi bV fY ca f1(aq:m∈f2)(ar:c9 m=true):a0 Q f3 en=d false:=
 Fx f0 (Vk ar (ag.apw h ae m aq))
theorem afS bi{h m:A} ca f1 em:a0 Q f3 bD=d (A.beq h m):=
 Fx (λG=>by rw[O.aW.V (dO G)];exact A.beq_refl m) (P8 ag aq (ag.sub h ae m aq))
theorem Vj:∀h∈[82,104,125,58],Mm h= .aW h:=by rw[g.a6,g.a6,g.a6,g.dT];exact ⟨rfl,rfl,rfl,rfl⟩
theorem Sy bi ca dr bE{ah:A->Prop}(S:∀h,ah h->a0 Q bs C=d bW) aK a8 bV(j:∀h∈[0,1,2,3,4,5],ah h)(m:∀h∈[82,104,125,58],ah h):sM w v=d h->a0 Q bs C=d bW:=by
 cases v with
 |none=>exact λa=>D.d.V a▸S _ (j 0 z)
 |cw _=>exact λa=>D.d.V a▸S _ (j 1 z)
 |aP _=>exact λa=>D.d.V a▸S _ (j 2 z)
 |str _=>exact λa=>D.d.V a▸S _ (j 3 z)
 |tup _=>exact λa=>D.d.V a▸S _ (j 4 z)
 |cC _=>exact λa=>lM a λP a=>D.d.V a▸S _ (m 58 z)
 |bz r=>
  show CS w[r]?=d h->_;rcases w[r]? with _|y
  ·exact λa=>ay a
  ·cases y with
   |aG _=>exact λa=>D.d.V a▸S _ (j 5 z)
   |c8 d' _=>exact λa=>lM a λb a=>D.d.V a▸S _ (Fd (ah:=ah) b (m 82 z) (m 104 z) (m 125 z))
   |_=>exact λa=>ay a
 |_=>exact λa=>ay a
theorem Jo bi ca dr(aj:W∈fZ)(aO:Ml W∈f2)(ar:c9 du=true)(eX:∀h∈[82,104,125,58],sD h W=false) aK a8 bV:sM w v=d h->a0 Q bs dv=d bW:=
 Sy ag (ah:=λh=>a0 Q bs dv=d bW) f4 (g.a6.bn ⟨yY z aj,g.a6.bn ⟨yY z aj,g.a6.bn ⟨yY z aj,g.a6.bn ⟨yY z aj,g.a6.bn ⟨yY z aj,g.dT.bn (yY (h:=5) z aj)⟩⟩⟩⟩⟩)
  λh ae=>by rw[eX h ae];rw[Vj h ae];exact afR ag ae aO ar
theorem afm bi ca dr(S:uR W=true) aK a8 bV:sM w v=d h->a0 Q bs co=d bW:=by
 have ar:W∈el:=E9 (ah:=(· ∈el)) S z z z z z;have aC:∀h∈[0,1,2,3,4,5],sD h W=false:=E9 (ah:=λW=>∀h∈[0,1,2,3,4,5],sD h W=false) S z z z z z;have aT:∀h∈[82,104,125,58],sD h W=A.beq h W:=E9 (ah:=λW=>∀h∈[82,104,125,58],sD h W=A.beq h W) S z z z z z;refine Sy ag (ah:=λh=>a0 Q bs co=d bW) f4 (λh ae=>?_) λh ae=>?_
 ·rw[aC h ae];have aA:∀c∈["NoneType","bool","int","str","tuple","list"],a0 Q (.bd c) co=d false:=λc aO=>afs ag aO ar;have b2:∀h∈[0,1,2,3,4,5],a0 Q bs co=d false:=by
   rw[g.a6,g.a6,g.a6,g.a6,g.a6,g.dT];exact ⟨aA "NoneType" z,aA "bool" z,aA "int" z,aA "str" z,aA "tuple" z,aA "list" z⟩
  exact b2 h ae
 ·rw[aT h ae];rw[Vj h ae];exact afS ag ae ar
theorem R8 aK f6 bX aw aV{q1:O} cn(rc:jG n b m q1)(a:Fc w v m=d G):∃h,sM w v=d h/\a0 K.Q bs q1=d G:=
 jZ a λh ae a=>⟨h,ae,by
  revert a;cases rc with
  |cC _=>exact λa=>jZ a λW S a=>lM S λaq S=>D.d.V a▸D.d.V S▸afm aL.xE aq ae
  |c1 j aj=>
   rw[aj];cases j with
   |cw=>exact λa=>D.d.V a▸Jo aL.xE (W:=1) z z dt z ae
   |aP=>exact λa=>D.d.V a▸Jo aL.xE (W:=2) z z dt z ae
   |str=>exact λa=>D.d.V a▸Jo aL.xE (W:=3) z z dt z ae
   |_=>exact λa=>ay a
  |_=>exact λa=>ay a⟩
end
end
mutual
section
open am.ce am.ch
theorem Uw eo f7 f8 f9 f_ ga gb(b:Runs H Γ f h b6 c a Y):c.p.ao.X<=Y.p.ao.X:=by induction b<;>(try simp only [ax.d8,aX.fn,aX.fm] at*)<;>omega
theorem arh eo f7 f8{B:A}{s:Resume} ga{cK:GenResult}(b:Wakes H Γ f B s c cK Y):c.p.ao.X<=Y.p.ao.X:=by
 unfold Wakes at b;have one:∀{bU:ax} {Γ':Ctx} {p':bv} f9 f_ gb {G:GenState},Runs H Γ' p' h b6 (c.d8 B .running) a bU->Y=bU.d8 B G->c.p.ao.X<=Y.p.ao.X:=λb a=>a▸(Uw b:);have no:Y=c->c.p.ao.X<=Y.p.ao.X:=λa=>a▸A.cH _;cases G:c.gens[B]? with
 |none=>rw[G] at b;exact b.a4
 |d st=>
  rw[G] at b;clear G;cases st with
  |fresh m=>cases s with
   |send v=>cases v with
    |none=>exact b.a4 λa b=>b.a4 λbU b=>one b.1 b.2.2.2
    |_=>exact no b.2
   |throw o=>exact b.2▸A.cH _
  |suspended=>exact b.a4 λa b=>b.a4 λbU b=>one b.1 b.2.2.2
  |_=>exact no b.2
theorem arx gc(H:Model)(Γ:Ctx) fP(h:cg α):∀(i:α->bv->ax->Prop) (l:O->bv->ax->Prop) (f:bv) (c:ax),r<=c.p.ao.X->cg.wp H Γ h i l f c->
  cg.wp H Γ h (λe p' Y=>r<=Y.p.ao.X/\i e p' Y) (λa p' Y=>r<=Y.p.ao.X/\l a p' Y) f c:=by
 induction h with
 |pure e=>intro i l f c I b;exact gd
 |raise a=>intro i l f c I b;exact gd
 |unsupported _=>intro i l f c _ b;exact b
 |finish _=>intro i l f c _ b;exact b
 |rule _ k ih=>intro i l f c I b;exact ih () i l f c I b
 |«at» p' k ih=>intro i l f c I b;exact ih () i l p' c I b
 |load e _ k ih=>intro i l f c I b;obtain ⟨y,bg,b⟩:=b;exact ⟨y,bg,ih y i l f c I b⟩
 |di e _ J k ih=>intro i l f c I b;exact ⟨b.1,ih () i l f _ (by show r<=(c.p.di e J).ao.X;rw[aX.fm];exact I) b.2⟩
 |loadIfAlive e k ih=>intro i l f c I b;exact ih _ i l f c I b
 |point _ k ih=>intro i l f c I b;exact ih () i l f c I b
 |register _ _=>intro i l f c _ b;exact b
 |dI y k ih=>intro i l f c I b;exact ih _ i l f _ (by show r<=(c.p.cJ y).ao.X;rw[aX.fn];exact A.e9 I) b
 |fresh k ih=>intro i l f c I b;exact ih _ i l f _ I b
 |ask k ih=>intro i l f c I b;exact ih _ i l f c I b
 |choose src x k ih=>intro i l f c I b;exact ⟨b.1,ih _ i l f _ I b.2⟩
 |os G _ k ih=>intro i l f c I b;exact ih _ i l f _ I b
 |aR m S _ _ k ih=>intro i l f c I b;obtain ⟨s,Y,b7,b⟩:=b;exact ⟨s,Y,b7,ih s i l f Y (A.b9 I (Uw b7)) b⟩
 |e2 own k ih=>intro i l f c I b;exact ih _ i l f c I b
 |genState B k ih=>intro i l f c I b;obtain ⟨st,aO,b⟩:=b;exact ⟨st,aO,ih _ i l f c I b⟩
 |newGen m k ih=>intro i l f c I b;exact ih _ i l f _ I b
 |resume B s _ k ih=>intro i l f c I b;obtain ⟨cK,Y,bJ,b⟩:=b;exact ⟨cK,Y,bJ,ih cK i l f Y (A.b9 I (arh bJ)) b⟩
 |yield _ _ _ _=>intro i l f c _ b;exact b
 |stack k ih=>intro i l f c I b;exact ih _ i l f c I b
 |fork _ _=>intro i l f c _ b;exact b
 |thread k ih=>intro i l f c I b;exact ih _ i l f c I b
 |await _ _ _ _ _=>intro i l f c _ b;exact b
theorem Aw gc eo bp bq{h:cg α}{i:α->ax->Prop} eq(b:ap H M h (λe Y=>c.p.ao.X<=Y.p.ao.X->i e Y) l c):ap H M h i l c:=
 dj (λΓ f hΓ=>arx H Γ c.p.ao.X h _ _ f c ge (b Γ f hΓ):ap H M h (λe Y=>c.p.ao.X<=Y.p.ao.X/\(c.p.ao.X<=Y.p.ao.X->i e Y)) (λa Y=>c.p.ao.X<=Y.p.ao.X/\l a Y) c)
  (λP P o=>o.2 o.1) λP P o=>o.2
end
mutual
section
open am.ce am.ch
mutual
section
variable {r:A}{F:Tb}{ak:g cp}
theorem cf.bK aw dx gf eh:cf n b n U:=⟨⟨[],by simp,by simp [Mine.Internal.own]⟩,aC,λj y a P=> .d7 (k j y a)⟩
theorem bP.bK aw aK dx fR gf eh:bP n w U:=
 B.d7 (.bK aC k) (λj y a=>k j y gg) λe av=>by obtain ⟨y,a⟩:=B.alive av;rw[a,k e y a]
theorem aj0 aK a8 aw aV cn gh cc(s:jR n b bw ws):∀bV bX,sM w v=d h->dY w v bw=d G->d2 K.Q bs ws=d G:=
 s.ind (G:=λbw ws=>∀bV bX,sM w v=d h->dY w v bw=d G->d2 K.Q bs ws=d G) (λP a=>a) λrc P ih h G ae a=>jZ a λj aa a=>by
  obtain ⟨t',ty,k1⟩:=R8 aL rc aa;rw[<-D.d.V (ae.symm.a3 ty)] at k1;unfold d2;rw[k1];cases j with
  |true=>exact a
  |false=>exact ih ae a
theorem aj1 aK a8 gh bX(b:(!bw.isEmpty)=true)(a:dY w v bw=d G):∃h,sM w v=d h:=by
 cases bw with
 |a1=>exact ft_ b
 |ba m bw=>exact jZ a λj aa P=>jZ aa λh ae P=>⟨h,ae⟩
theorem aqm aK a8 bE bV aw aV fS:sM w v=d h->C≠ .bR "__main__.__loader__#opaque":=by
 induction N using jG.b4 with
 |c1=>exact λa=>ay a
 |_=>exact λP a=>nomatch a
theorem aj4 bp aw aK bq b_ f6{C q1:O} bX cn a9 fI(rc:jG n c.p m q1)(a:B7 w v m=d G)
  (b:∀tk,i (.cw G) gi):ap K.H M (aR (.bR "isinstance") [C,q1]) i l c:=by
 unfold B7 at a;rcases aq:tC m with _|bw
 ·rw[aq] at a;obtain ⟨h,ty,k1⟩:=R8 aL rc a;obtain ⟨bj,c0,c7⟩:=Vi aL B N ty;exact kia_one c0 gk c7 k1 gl b
 ·rw[aq] at a;rw[By aq] at rc;obtain ⟨e,q,rfl,_,⟨⟨oc,od,F3,osl⟩,bg,aq,r,S⟩,rs⟩:=rc.sF;refine lM a λne a=>?_;obtain ⟨h,ty⟩:=aj1 ne a;obtain ⟨bj,c0,c7⟩:=Vi aL B N ty;replace aq:oc=_:=aq;replace S:F3=_:=S;rw[aq,S] at bg;exact kia_tup c0 gk c7 bg (aj0 aL rs ty a) gl b
theorem apz aw aV cb cP{E:L} dw:fs t=d E->∃Z:g (L×Tok),q=Z.aU gm/\gn/\E=(Z.aU bY).bL:=
 s.ind (G:=λt q=>∀E,fs t=d E->∃Z:g (L×Tok),q=Z.aU gm/\gn/\E=(Z.aU bY).bL) (λE a=>⟨[],rfl,λP aA=>(g.fg aA).a4,(D.d.V a).symm⟩)
  (λN P ih E a=>jZ a λk aZ a=>lM a λaO a=>jZ a λaD bf a=>by obtain ⟨h,rfl⟩:=(qO aZ▸N).ofInt;clear P;obtain ⟨Z,rfl,e,j⟩:=ih aD bf;exact ⟨(k,h)::Z,rfl,g.a6.bn ⟨aO,e⟩,(D.d.V a).symm.a3 (c4 (k+·) j)⟩) E
theorem T_(Z:g go)(aD:A):aD<=Z.ad->df er aD=((Z.cM aD).aU bY).bL:=by
 induction aD with
 |zero=>intro _;rfl
 |succ aD ih=>intro b;have bf:aD<Z.ad:=b;unfold df;rw[ih (A.e8 b),g.take_succ_eq_append_getElem bf,g.map_append,g.sum_append];simp [dc,bf]
theorem ft(t:g L):(∀E∈t,dg E=true)-> -(1000000000*es)<=t.bL/\t.bL<=1000000000*es:=by
 induction t with
 |a1=>exact λP=>⟨L.cH _,L.cH _⟩
 |ba e t ih=>intro b;obtain ⟨cE,cF⟩:=ih λE T=>b E (g.mem_cons_of_mem _ T);have aa:=Ah gq;have ai:=Ag gq;clear b ih;rw[g.sum_cons,g.length_cons,L.natCast_succ];generalize es=r at cE cF;generalize t.bL=h at cE cF;omega
theorem PT gr{r:A}(I:r<=1000000)(b: -(1000000000*(r:L))<=e/\e<=1000000000*(r:L)):cW e:=by unfold cW;omega
theorem aoZ gr(b:dg e=true):cW e:=PT (r:=1) z ⟨Ah b,Ag b⟩
theorem apB bp bq b_ cQ{Z:g go} gs(aa:c.p.IsList e (Z.aU λf=>O.aP f.1 f.2).al)(aN:Z.ad<=cI)(aJ:∀f∈Z,dg f.1=true)
  (G:∀U tk h,(∀j y,c.p.cB j=d y->U.cB j=d y)->c.p.ao.X<=U.ao.X->i (.aP (Z.aU bY).bL h) gt):ap K.H M (aR (.bR "sum") et) i l c:=by
 have hxs:(Z.aU λf=>O.aP f.1 f.2).al=e6 Z.al:=by simp [e6]
 rw[hxs] at aa;have eO:∀aD,aD<=Z.ad->cW (df er aD):=λaD bf=>by
  rw[T_ Z aD bf];have j:=ft ((Z.cM aD).aU bY) λE T=>by obtain ⟨G,aT,rfl⟩:=g.mem_map.mp T;exact aJ G (g.mem_of_mem_take aT)
  rw[g.e_] at j;exact PT (A.b9 (g.length_take_le _ _) (A.b9 bf aN)) j
 refine Aw (sum_intList dX aa (λaD bf=>⟨?_,eO (aD+1) bf⟩) λU tk t' aZ cq=>?_)
 ·have a:dc Z.al aD=Z[aD].1:=by simp [dc,show aD<Z.ad from bf]
  rw[a];exact aoZ (aJ Z[aD] (g.getElem_mem bf))
 ·have ck:df er Z.al.X=(Z.aU bY).bL:=by rw[g.bT,T_ Z _ ge,g.take_length]
  exact ck▸G U tk t' aZ cq
theorem jR.only aw aV bZ cc a8 gu(a:Lp q=d v):∃C,ws=[C]/\jG n b v C:=by
 induction s using jR.b4 with
 |a1=>exact ay a
 |ba e j=>induction j using jR.b4 with
  |a1=>exact ⟨_,rfl,D.d.V a▸e⟩
  |ba=>exact ay a
theorem jR.F5 aw aV bZ cc{f:R×R} gu(a:Mine.Internal.F5 q=d f):∃C w',ws=[C,w']/\jG n b f.1 C/\jG n b f.2 w':=by
 induction s using jR.b4 with
 |a1=>exact ay a
 |ba e j=>induction j using jR.b4 with
  |a1=>exact ay a
  |ba j m=>induction m using jR.b4 with
   |a1=>exact ⟨_,_,rfl,D.d.V a▸e,D.d.V a▸j⟩
   |ba=>exact ay a
theorem aes fO:(if E<0 then -E else E)=(E.natAbs:L):=by
 cases E with
 |dd r=>exact b8 (L.ff.bn g0)
 |d5 r=>exact bm (L.fe r)
theorem afK bB bp aw aK bq bC bM b_{j:Bn} bZ cc cn gs a9
  gw(a:aH gx k w=d s) br(aj:j≠ .aG):ap K.H M (aR (BB j) ws) i l c:=by
 have cy:∀{u nK tk},jG n c.p u nK->k u w=d s->i nK gi:=λmR a=>f _ _ n w c.p _ gQ B mR a;cases j with
 |len=>refine nR a λu b a=>jZ b λv bh b=>jZ b λt aN b=>?_;obtain ⟨C,rfl,N⟩:=j6.only bh;clear j6;obtain ⟨la,lv,rfl,aa,ai,aC⟩:=B.zW N aN;have aC:lv.ad<=1000000:=ai.ad▸aC;cases D.d.V b;rw[ai.ad] at a;exact call_len_list aa (L.lt_of_le_of_lt (L.fi.bn aC) z) (cy (.aP _ _) a)
 |isinstance=>refine nR a λu b a=>jZ b λv bh b=>jZ b λG aT b=>?_;obtain ⟨C,w',rfl,N,rc⟩:=j6.F5 bh;exact aj4 aL B N rc aT λtk=>cy (D.d.V b▸ .cw G) a
 |abs=>refine nR a λu b a=>jZ b λv bh b=>jZ b λE T b=>?_;obtain ⟨C,rfl,N⟩:=j6.only bh;clear j6;obtain ⟨h,rfl⟩:=(qO T▸N).ofInt;exact call_abs_int λu tk=>(aes E).symm▸cy eu a
 |aP=>refine nR a λu b a=>jZ b λv bh b=>jZ b λE T b=>?_;obtain ⟨C,rfl,N⟩:=j6.only bh;clear j6;cases (afi T▸N).ofBool;exact call_int_bool (cy (tk:=c.a2+1) eu a)
 |bL=>refine nR a λu b a=>jZ b λv bh b=>jZ b λt aN b=>jZ b λE T b=>?_;obtain ⟨C,rfl,N⟩:=j6.only bh;clear j6;obtain ⟨la,lv,rfl,aa,ai,aC⟩:=B.zW N aN;obtain ⟨Z,rfl,aJ,rfl⟩:=apz ai T;exact apB dX aa (g.e_ (λf:L×Tok=>O.aP f.1 f.2)▸ai.ad▸aC) aJ λU tk h aZ cq=>f _ _ n w U tk (.bK cq aZ) (B.bK cq aZ) eu a
 |aG=>exact absurd rfl aj
 |_=>exact ay a
theorem ali bB bp aw aK bq bC bM b_{x:A} cb bE a9
  (N:jG n c.p (.bz x) C)(aN:w[x]?=d dk)(a:aH fH k w=d s) br:ap K.H M (aR (.bd "list") [C]) i l c:=by
 obtain ⟨e,q,rfl,_,⟨n',ho'⟩,j,m⟩:=B.lst N aN;obtain ⟨aS,au⟩:=qw a;refine Aw (call_list_seq _ ev ho' rfl rfl (λU c' aZ e0 aC=>?_) (by rw[g.bT,<-j.ad];exact qo m));have o:cf n c.p gz U:=⟨⟨_,rfl,λe av=>A.le_of_eq (g.mem_singleton.mp av).symm⟩,aC,λj y a P=> .d7 (aZ j y a)⟩;have g':bP gz (w++[.aG t]) U:=B.snoc o (λj y a=>aZ j y gg) (λe av=>by obtain ⟨y,a⟩:=B.alive av;rw[a,aZ e y a]) cR cR (.aG ⟨_,e0⟩ (j.ext o) m);exact f _ _ _ _ U c.a2 o g' (.bz (f:=gy) (by rw[<-B.len];simp)) au
end
end
mutual
section
open am.ce am.ch
structure D6(Q:Frag)(m:A)(o:b1)(e:A):Prop where
 n5:plainGet Q m o=true
 S:hasDictIn Q m=true
 aS:findIn Q bD o=d (d b0)
 cz:typeIn Q b0=d (.bd "function")
structure yz(r:A)(e:bt)(x:g R->H R):Prop where
 a7:∀{aE:Type} {M:cr} {n:jV} {w:jE} {c:ax} {q:g R} {ws:g O} {k:R->H aE} {s:ct R aE×jE} {i l:O->ax->Prop},
  kR r M n c.p->bP n w c.p->jR n c.p q ws->aH ew k w=d s->cZ s k ed n c i->nF s n c l->ap K.H M gA i l c
structure IQ(r:A)(F:Tb):Prop where
 cA:q6 F
 cz:∀e x,lW F.ag e=none->lW F.af e=d x->dZ K.Q b0=true/\oH r e x
 cx:∀e E x,lW F.ag e=d E->lW F.af E=d x->dZ K.Q b0=true/\yz r e (k9 e x)
 mt:∀m o e,oX F.uv m o=d e->m≠38/\m≠39/\D6 K.Q m o e/\dZ K.Q b0=true
 mf:∀m o e x,oX F.uv m o=d e->lW F.af e=d x->oH r e x
 alY:∀m c' o e a',oX F.uv m o=d e->oX F.uv c' o=d a'->e=a'
mutual
section
variable {r:A}{F:Tb}{ak:g cp}
theorem amg ex dy ey gB:(cv az dz).any bY=false:=by
 induction a5 with
 |a1=>rfl
 |ba a a5 ih=>rw[(b a g.da).d_];exact ih λa cD=>b a gC
theorem Ey bp bq eq{i:O->ax->Prop} ey dy{J:O}{first:g O} ex{ah:aX->Prop}(I:∀a∈a5,Pl a)
  (aZ:∀b,ah b->∃k,cS/\bu K.H b gD k)
  (b:ap K.H M (d9 gE) (λq bU=>ah bU.p/\ap K.H M (aR J (first++q)) i l bU) l c):
  ap K.H M (c3 az J first gE cT) i l c:=by
 have a1:∀{Q':Args->ax->Prop},ap K.H M (d9 []) (λq Y=>Q' ⟨q,[]⟩ Y) l c->ap K.H M (eT J true [] []) Q' l c:=λb=>by unfold eT;show ap K.H M (d9 []>>=_) _ l c;refine bA (dj b (λq Y U=>?_) λP P o=>o);refine bA (cN ?_);refine fv ?_;exact bA (cN (bA (cN (cN (by simpa using U)))))
 refine callWith_of (by show ((cv az dz).any bY||false)=false;rw[amg I];rfl) aZ ?_;cases a5 with
 |a1=>exact a1 b
 |ba a a5=>have aO:dh (a::a5) as=(false,dP a as)::dh a5 as:=(I a g.da).d_ _ _;rw[aO] at b⊢;exact evalArgs_plain b
theorem oH.cps cQ gF gG bB bp aw aK bq bZ cc bC bM{i:Result->ax->Prop}
  ez a9 eA gH(f:cZ s k ed n c (λv=>i (.ok (.ret v))))(jK:nF s n c (λa=>i (.error a))):
  codeAny K.H M (.aR b0 ⟨ws,[]⟩) i c:=by
 rcases BD a with ⟨v,bF,an,au⟩|⟨o,bF,an,rfl⟩
 ·refine af.a7 rP B N an (λu C aQ oF U tk o g' mR aF=>?_) λn' aQ oF U tk dN b7=>by cases b7
  clear an;cases aF;exact f _ _ aQ _ U tk o g' mR au
 ·refine af.a7 rP B N an (λu C aQ oF U tk o g' mR aF=>by cases aF) λn' aQ oF U tk dN b7 o g' eU=>?_;clear an a f;cases b7;exact jK n' aQ _ U tk dN rfl o g' eU
theorem oH.aR cQ gF gG bB bp aw aK bq bZ cc bC bM b_
  ez a9 eA gH br cU:ap K.H M gA i l c:=
 wpAny_call (af.cps rP B N a f jK)
theorem PU bB eB bZ bC aK bM eC{ah:R->Prop}(aj:∀j,aH gx k w=d s->j≠ .aG->ah (.c1 j))
  (aS:∀e x,lW F.ag e=none->lW F.af e=d x->aH ew k w=d s->ah gJ)(aq:∀e E x,lW F.ag e=d E->lW F.af E=d x->aH (k9 e x q) k w=d s->ah gJ):ah J:=by
 cases J with
 |c1 j=>cases j with
  |aG=>exact ay a
  |_=>exact aj _ a z
 |cC e=>
  replace a:aH (match lW F.ag e with|d E=>gK|none=>gL) k w=d s:=a;cases aY:lW F.ag e with
  |none=>
   replace a:aH gL k w=d s:=by rw[aY] at a;exact a
   cases aI:lW F.af e with
   |none=>rw[aI] at a;exact ay a
   |d x=>rw[aI] at a;exact aS e x aY aI a
  |d E=>
   replace a:aH gK k w=d s:=by rw[aY] at a;exact a
   cases aI:lW F.af E with
   |none=>rw[aI] at a;exact ay a
   |d x=>rw[aI] at a;exact aq e E x aY aI a
 |_=>exact ay a
theorem afL bB eB bE aw aV bZ bC aK bM cd(rf:jG n b J C) eC:
  ∀b,K.Q.In b->∃k,cS/\bu K.H b eD k:=
 PU a (ah:=λJ=>jG n b J C->∀b,K.Q.In b->∃k,cS/\bu K.H b eD k) (λj P P rf b P=>⟨.c_,.inr ev,rf.TM▸bu.de (by clear rf;cases j<;>rfl)⟩)
  (λe x aY aI P rf=>rf.uZ▸d1 (aM.cz e x aY aI).1) (λe E x aY aI P rf=>rf.uZ▸d1 (aM.cx e E x aY aI).1) rf
theorem afM bB bp eB bE aw aK bq bZ cc bC bM b_ cd ez a9
  (rf:jG n c.p J C) eA eC br cU:ap K.H M gM i l c:=
 PU a (ah:=λJ=>jG n c.p J C->ap K.H M gM i l c) (λj a aj rf=>rf.TM▸afK aM.cA rP.S B N a f aj)
  (λe x aY aI a rf=>rf.uZ▸(aM.cz e x aY aI).2.aR rP B N a f jK) (λe E x aY aI a rf=>rf.uZ▸(aM.cx e E x aY aI).2.a7 rP B N a f jK) rf
noncomputable abbrev N8(J:a_)(args:g a_)(az:bv):Prop:=∀as,dP eE as=(do c3 az (<-dP J as) [] dA cT)
theorem OW{J:a_} gO dy cd(aS:kI r F ak J) cV(aa:N8 J args az)
  (ai:∀bB {jF:jL} bC,kg F ak eE jF k=kg F ak J jF λJ=>lP F ak args jF λq=>aH gI k):kI r F ak eE:=by
 refine ee;intro aE M as bG jF n w c k s i l x bI B bb f jK;rw[ai] at bb;rw[aa];refine bA (dj (aS.a7 x bI B bb (λv C j9 σ1 s1 t1 x1 be N an=>?_) jK) gP λP P aA=>aA);refine Ey (ah:=λb=>∃k,cS/\bu K.H b eD k) av.pl (λP aA=>aA) ?_;refine av.a7 (c:={c with p:=s1,a2:=t1}) dm eF be an (λq ws lI cm s2 t2 x2 bc j6 au=>?_) dn;have v_:=N.ext x2;refine ⟨afL aM v_ au _ (aM.cA.rI.bK bc.ci),?_⟩;exact afM (c:={c with p:=s2,a2:=t2}) aM fL bc v_ j6 au (f.bQ dp) fM
end
end
mutual
section
open am.ce am.ch
mutual
section
variable {r:A}{F:Tb}{ak:g cp}
theorem T9 aV cQ{q us:g O}(o:ng b e q.al)(J:cs O->cs O)(aS:J q.al=us.al):
  ng gR e us.al/\aX.eL e b gR:=by
 obtain ⟨r,a⟩:=o;refine ⟨⟨if (J q.al).X==q.al.X then r else r+1,?_⟩,aX.eL.di ..⟩;rw[aX.get?_update_self _ a rfl,<-aS];rfl
theorem jR.bS aw aV cb cP dw:jR n b t.bS q.bS:=by rw[g.dM,g.dM,<-s.ad];exact s.cM _
theorem jR.last aw aV cb cP a8 dw(a:t.dU=d v):∃C,q.dU=d C/\jG n b v C:=by rw[g.dV] at a;obtain ⟨C,e,j⟩:=s.get _ _ a;exact ⟨C,by rw[g.dV,<-s.ad];exact e,j⟩
noncomputable def lm(o:b1):cu:=if j4 o lJ=true then "list.append" else if j4 o m6=true then "list.extend" else "list.pop"
theorem alg bp bq eq eG cQ{q:cs O}{pl:cg bO}{i:O×g O->ax->Prop}(aN:ng c.p e q)
  gT(b:i (.bR gU,et) c):ap K.H M (getMethod b0 o pl) i l c:=by
 obtain ⟨r,bg⟩:=aN;have S:∀j,O.aW e= .aW j->∃y,c.p.cB j=d y/\y.dict=none:=λj a=>by cases a;exact cO
 unfold lm at b;cases aa:j4 o lJ with
 |true=>rw[aa,bm rfl] at b;have:=n8.mp aa;clear aJ aa;subst this;exact dW cO am.af.d6 am.af.slot_list_append am.af.type_list_append S b
 |false=>
  rw[aa,b8 cR] at b;rw[aa] at aJ;cases ai:j4 o m6 with
  |true=>rw[ai,bm rfl] at b;have:=n8.mp ai;clear aJ aa ai;subst this;exact dW cO am.af.d6 am.af.fp am.af.type_list_extend S b
  |false=>rw[ai,b8 cR] at b;rw[ai] at aJ;have:=n8.mp (by simpa using aJ);clear aJ aa ai;subst this;exact dW cO am.af.d6 am.af.fq am.af.type_list_pop S b
theorem als eG gp:bu K.H b (d0 gV) .c_:=by
 unfold lm
 split
 ·exact bu.de rfl
 ·split
  ·exact bu.de rfl
  ·exact bu.de rfl
theorem aic(q:g O):q.al.eS (q.al.X -1)=q.bS.al:=by
 apply cs.toList_inj.mp;rw[cs.toList_eraseIdxIfInBounds,g.dM,g.bT,g.eraseIdx_eq_take_drop_succ];cases q with
 |a1=>rfl
 |ba e t=>rw[show (e::t).ad -1+1=(e::t).ad from rfl,g.drop_length,g.append_nil]
mutual
section
variable {aE:Type}{M:cr}{n:jV}{w:jE}{c:ax}{k:R->H aE}{s:ct R aE×jE}{i l:O->ax->Prop}{x:A}{t:g R}{o:b1}{e:bt}{us:g O}{q:g R}{ws:g O}
theorem TV aV{C:R} gW(a:Lp q=d C)(j6:jR n b q ws)(G:∀u,ws=[u]->jG n b C u->ah):ah:=by
 rcases q with _|⟨v,_|_⟩
 ·exact ay a
 ·obtain ⟨u,cl,mR⟩:=j6.one;exact G u cl (D.d.V a▸mR)
 ·exact ay a
theorem aeN a8{u:O} a9 dB dC dD(r1:jG n c.p v u)(aj:t.ad<cI)(a:k .none (w.set x (.aG gY))=d s) br:
  ap K.H M (aR (.bR "list.append") [.aW e,u]) i l c:=by
 refine wpAny_list_append_plain bH (λU I aO=>?_) (by rw[g.bT,<-bk.ad];exact qo (A.e8 aj));rw[g.push_toArray] at I;obtain ⟨x1,be⟩:=B.CT (y:= .aG gY) aB aO λx1=> .aG I ((bk.snoc r1).ext x1) gZ;exact f _ _ _ _ U c.a2 x1 be .none a
theorem aiq{l':g R}{a':bt}{bN:g O} a9 dB dC dD(cj:ng c.p a' bN.al)(b5:jR n c.p l' bN)(aj:t.ad+l'.ad<=cI)
  (a:k .none (w.set x (.aG g1))=d s) br:ap K.H M (aR (.bR "list.extend") [.aW e,.aW a']) i l c:=by
 have hsz:us.al.X+bN.al.X<=sizeLine:=by rw[g.bT,g.bT,<-bk.ad,<-b5.ad];exact qo aj
 obtain ⟨n1,an⟩:=bH;obtain ⟨n2,au⟩:=cj;refine eP am.af.fp g3 am.af.entry_list_extend (am.af.args_list_extend_2 _ _) (AutoSeq1.list_extend_list_list_0 e us.al n1 a' bN.al n2 (extend_door hsz) (A.b9 (A.le_add_right _ _) hsz) (A.e9 hsz)) ⟨an,au,?_⟩;obtain ⟨I,aO⟩:=T9 (us:=us++bN) g4 (λo=>o++bN.al) cR;obtain ⟨x1,be⟩:=B.CT (y:= .aG g1) aB aO λx1=> .aG I ((bk.append b5).ext x1) gZ;exact f _ _ _ _ _ c.a2 x1 be .none a
theorem anb a8 a9 dB dC dD g5(aT:t.dU=d v)(a:k v (w.set x (.aG t.bS))=d s) br:
  ap K.H M (aR (.bR "list.pop") et) i l c:=by
 obtain ⟨u,kE,kJ⟩:=bk.last aT;obtain ⟨n1,an⟩:=bH;refine eP am.af.fq g3 am.af.entry_list_pop (am.af.args_list_pop_1 _) (MeetsSeq.list_pop_last e us.al n1 u ?_ (by rw[g.bT,<-bk.ad];exact qo c2)) ⟨an,?_⟩
 ·rw[g.dV] at kE;simpa using kE
 ·obtain ⟨I,aO⟩:=T9 (us:=us.bS) g4 (λZ=>Z.eS (us.al.X -1)) (aic us);obtain ⟨x1,be⟩:=B.CT (y:= .aG t.bS) aB aO λx1=> .aG I (bk.bS.ext x1) (by rw[g.length_dropLast];exact A.b9 (A.fr _ _) c2);exact f _ _ _ _ _ c.a2 x1 be (kJ.ext x1) a
theorem alh{τ:jE} a8 a9 dB dC dD g5 gw(a:vS o t q x w=d (v,τ))(e':k v τ=d s) br:
  ap K.H M (aR gV (.aW e::ws)) i l c:=by
 unfold vS at a;unfold lm;cases aa:j4 o lJ with
 |true=>rw[aa] at a;rw[bm rfl];exact jZ a λC bJ a=>lM a λaj a=>TV bJ j6 λu cl mR=>cl▸aeN B aB bH bk mR (A.blt_eq.mp aj) g6 f
 |false=>
  rw[aa] at a;rw[b8 bO.dR];cases ai:j4 o m6 with
  |true=>
   rw[ai] at a;rw[bm rfl];exact jZ a λC bJ a=>jZ a λm' ar a=>jZ a λl' aN a=>lM a λP a=>lM a λaj a=>TV bJ j6 λu cl mR=>by rw[qj ar] at mR;obtain ⟨a',bN,rfl,_,cj,b5,_⟩:=B.lst mR (qz aN);rw[cl];exact aiq B aB bH bk cj b5 (A.le_of_ble_eq_true aj) g6 f
  |false=>
   rw[ai] at a;rw[b8 bO.dR];refine lM a λP an=>lM an λaC au=>jZ au λC bJ aF=>?_;clear a an au;cases q with
   |a1=>cases j6;exact anb B aB bH bk c2 bJ (sp_ aF λan au=>an▸au▸e') f
   |ba=>exact ft_ aC
end
noncomputable def yG(y:a_):Prop:=∀o as eb,attributeBase y o as eb=eb
theorem afq ex dy ey gB:(cv az dz).b2 (λo=> !o.1)=true:=by
 induction a5 with
 |a1=>rfl
 |ba a a5 ih=>rw[(b a g.da).d_];exact ih λa cD=>b a gC
theorem lg.SV aV aw cb{f:bt×D bt} gW(s:lg n b dk f)(G:∀e q,f=gX->ng b e q.al->jR n b t q->t.ad<=cI->ah):ah:=by
 cases s with
 |aG e j m=>exact G _ _ rfl e j m
mutual
section
variable {aE:Type}{M:cr}{as:Env}{bG:g bt}{jF:jL}{n:jV}{w:jE}{c:ax}{k:R->H aE}{s:ct R aE×jE}{i l:O->ax->Prop}{o:b1}{args:g a_}{E:A}{y:a_}{az b3:bv}
theorem S1 a8{J u:O} cd cV dE eI eJ a9
  (aZ:∀b,K.Q.In b->∃k,cS/\bu K.H b gD k)(a:lP F ak args jF (λq=>aH eK k) w=d s) cU
  (aq:∀q ws aQ bF U tk,cf n c.p aQ U->bP aQ bF U->jR aQ U q ws->aH eK k bF=d s->ap K.H M (aR J (u::ws)) i l gt):
  ap K.H M (db true y as b3 az>>=λJw=>c3 Jw J [u] dA cT) i l c:=by
 refine bA (wpAny_of_eq (show db true y as b3 az=pure az by unfold db;rw[aN];rfl) (Ey (ah:=λb=>K.Q.In b) av.pl aZ ?_));exact av.a7 x bI B a (λq ws aQ bF U tk o g' j6 a=>⟨aM.cA.rI.bK g'.ci,aq q ws aQ bF U tk o g' j6 a⟩) jK
theorem alK cb bE cd cV dE eI eJ a9 g9(e1:w[E]?=d dk)
  gT fy br cU:
  ap K.H M fz i l c:=by
 obtain ⟨e,us,rfl,aB,bH,_⟩:=B.lst N e1;clear N;refine bA fA;unfold dJ;rw[bm rfl];refine alg bH aJ (S1 aM av aN x bI B (λb P=>⟨.c_,.inr ev,als b⟩) a jK λq ws lI cm ai t2 x2 bc j6 aF=>?_);refine BK aF λm' ar aF=>jZ ar λn' hn' ar=>?_;cases hn';have bl:=x2.pR aB;obtain ⟨Cv,Ke,LO⟩:=bc.bz bl;rcases aT:l_ cm E with _|l2
 ·rw[aT] at ar;exact jZ ar λm aq P=>lg.Ku (D.d.V (Ke.symm.a3 fB)▸LO) λW S=>ay S
 ·rw[aT] at ar;rw[<-D.d.V ar] at aF;refine My aF λv τ bh ck=>lg.SV fD λeM ate ha2 cj b5 eR=>?_;rw[show e=eM from c4 Prod.fst ha2];exact alh (c:=eg) bc (bl.a3 (c4 d ha2)) cj b5 eR j6 bh ck fE
theorem alJ{m J:A}{b6:g (b1×R)} bE cd cV dE eI eJ a9 g9(aY:w[E]?=d fF)
  (aJ:oX F.uv m o=d J)(aC:(lk b6 o).isNone=true) fy br cU:
  ap K.H M fz i l c:=by
 obtain ⟨⟨e,W⟩,rfl,aB⟩:=N.ofObj;obtain ⟨TJ,RI,CE⟩:=B.bz aB;replace CE:lg n c.p fF (e,W):=D.d.V (RI.symm.a3 aY)▸CE;refine CE.Ku λd' S=>?_;clear N;cases (show W=d d' from S);obtain ⟨n1,n2,D5,kp⟩:=aM.mt m o J aJ;obtain ⟨es',n',ag,dS⟩:=Ks ⟨n1,n2⟩ CE;clear CE RI;obtain ⟨c5,dQ⟩:=dS.find (o:=o);rw[D.isNone_iff_eq_none.mp aC] at c5;refine bA fA;unfold dJ;rw[bm rfl];refine method_fn (aM.cA.rI.bK B.ci) ag (fk D5.n5).1 (fk D5.n5).2 D5.aS D5.cz (by show (fa o _).aU (·.isSome)=_;unfold fa;dsimp only;rw[c5,dQ];rfl) ?_;clear dS c5 dQ ag;refine S1 aM av aN x bI B (d1 kp) a jK λq ws lI cm ai t2 x2 bc j6 aF=>?_;refine BK aF λm' ar aF=>jZ ar λn' hn' ar=>?_;cases hn';have bl:=x2.pR aB;obtain ⟨Cv,Ke,LO⟩:=bc.bz bl;rcases aT:l_ cm E with _|l2
 ·rw[aT] at ar;refine jZ ar λc' aq ar=>jZ ar λf' aS ar=>jZ ar λaf aI ar=>?_;rw[<-D.d.V ar] at aF;rw[<-aM.alY m c'.1 o J f' aJ aS] at aI;exact (aM.mf m o J af aJ aI).aR (c:=eg) (x.ext x2) bc (.ba (.bz bl) j6) aF fE (jK.bQ x2)
 ·exact lg.SV fD λP P G=>ay (c4 Prod.snd G).symm
end
theorem acq{y:a_} eG gO{b3 az:bv} cd(bg:kI r F ak y) cV(aO:yG y) dE(aS:args.ad<20):
  kI r F ak (.Call (.Attribute y o b3) args [] az):=by
 refine ee;intro aE M as bG jF n w c k s i l x bI B bb f jK;have bb:kg F ak y jF (λv=>aH (mG F v o) λP=>lP F ak args jF λq=>aH eK k) w=d s:=bb;rw[arm_eval_Call,aO];refine bA (dj (bg.a7 x bI B bb fK jK) gP λP P aA=>aA);refine bA (wpAny_standAt ?_);have ajk:fc (args.ad+([]:g Keyword).ad) dA cT=true:=by unfold fc;rw[afq av.pl];exact decide_eq_true (A.lt_of_lt_of_le aS z:args.ad+0<30)
 unfold methodCall;rw[ajk];refine nR an λP aB au=>jZ aB λE T bl=>?_;clear an aB;rw[qj T] at N au;rcases aT:l_ σ1 E with _|t
 ·rw[aT] at bl;exact jZ bl λm aq aB=>jZ aB λJ aS aB=>lM aB λaC P=>alJ (c:=ef) aM av aN dm eF be N fB aS aC au fG dn
 ·rw[aT] at bl;exact lM bl λaJ P=>alK (c:=ef) aM av aN dm eF be N fC aJ au fG dn
end
end
end
mutual
example _ o e b s ρ x h' h a k some List wpAny_bind c heap l n d I σ u v q A t r Nat S E g i extBut f Q hz wpAny ho trans he hx w Addr get? hb size z M es y V ζ C _ _ _ _ _ _ _ _ _ _ _ PySem hh ac it Heap hd p wpAny_pure ep Value a2 hT hit own ref m F c1 Shared «at» W int D Int hc G elim X a1 j mpr a3 hQ hg N P env data drop hi hm items type Builtin c2 hq objs tup a4 gd toks[{d with o:=g}]B Str congrArg e1 g1 h2 hV[by decide]ρ' IsListIter hp hs₁ if_neg Array T cls fields hne hs2 hs₂ ht s₁{h:ae}Expr ds e2 h1 hv length map{q:A}IsPair val(ab:x.d3=none)Obj «by» a5 g2 mem_cons_self typeIs wpAny_holding[{d with o:=g,aY:=tk}]{i:P}Bool Option Pos i1 i2 isList lst toArray toList zip[[s]][B+3][B+4]DictEntry Name R c3 eb ha hj hk hw hy h₂ push[(·.2)]{p:l jD}(aO:oU d.o r V ai)[ah ?_]{t:jE}[(i,none)]{z:Except jD bV×jE}{j:A}Around SameBut a6 a7 b2 cons d1 e3 forall_mem_singleton hao hl hlt hod keep list pick wpAny_call_entry[E+1](D:az e t h){e:jV}[(B+4,k bR)][B+2][[B,B+1]](D:az e t d.o)[a6 _ l.bB]Dict IsValIter IsZip b1 dk f2 g3 hend hes hn le_trans lt_size off targets three two update wpAny_attempt wpAny_callSpecial?_slot wpAny_field wpAny_newObj_type{jF:jL}{ai:A}{H:bH aj->as->Prop}[.ao T][p.aM j][ame ap]{H:Unit->as->Prop}Calls Dict_items IsList SeqAt SmallTypes Tuple a8 absurd f1 getElem?_eq_none_iff hW hdat hlen h₁ kept mem_cons_of_mem nameOf not_lt pure pyNext slot_dict_keyiterator_next slot_dict_valueiterator_next «do» take unpackItems zipWith{V:l (jD×jD)}[ab▸x1][.ao ad]{v:P}{α:Type}[dl du][ah (m (fH co xx ?_))][R5 V.S][ah (m (fI co xx ?_))][R5 ai](f:kK au e h a8 g)(y:pY X h)(f:s8 X e h a8 g)[by simp]{bV:Type}{vs:bc aj}{v:jD}(d:as){O:aj}[(λt:jE=>t[q]?=k (.cq p))][(λY:jE=>True)][B+1](rv:jG e d.o v O)[f.pR i][.ao i][λc a e' ap=>R.F c a c1 e'][by omega]ExtBut IsKeyIter K L Tame ab c0 d2 e0 hE handled h₃ lookup places prog range showsAll succ_pos wpAny_isOneOf_valiter wpAny_setField_rec[t7 aC](T:tT V=true){bn:bc bT}[a1×kN]{j:jL->U bV}(G:FR au aB aK jF e d.o)[q+1]{d:as}{H:aj->as->Prop}[.ao d.o.aU.S][⟨_,ae.fj _ rfl,rfl⟩][(by decide:aR.c4.fy "dict_valueiterator"=false)](q:A)[(q:ax)][if (E:ax)<0 then none else V[(E:ax).toNat]?]{a:bx}{bd:e0}[(bx.mapFields (·.setIfInBounds 1 (fA ((E:ax)+1))))][ae.cM b](I:h.aU.S<=g.aU.S){aK:Env}(af:∀v∈X,∀a,h.Q v=k a->2<=cF a.aL){x:cc}{i c:P}[A.zero_lt_succ 4][fp y (.ao s) v][.aV p][(aD:ax)][.dict V](E:l6 s w tt X e h aX p)[∀c a,d.o.Q c=k a->g.Q c=k a][dq O q none][j+1](j:A){aJ:Prop}(x:cc)(y:bm)(aI:as->Prop)(m5:aj->as->Prop)(C:aj->as->Prop)(s:P)[A.fu (ae.cM bX)][dl (.ao s)](aC:e[q]?=k b_)(aF:s∉an e)(aW:a0<=s)DictOfH IsEnum IsRangeIter IsTupleIter String TypeIs ZipApart a9 assign assignInOrder c4 contains data_mapFields drop_cons drop_eq_getElem_cons drop_nil e4 ex ey f3 flatMap forall_mem_cons fs get?_push_of_some get?_push_size h3 hu isSubtype_stop le_of_eq length_map letOwnedTupleGo locals mem_flatMap mem_of_getElem? ne_of_gt ne_of_lt newExc nextOf ownedTupleIsFree ownsTuple pyIter rawInt setField slot_dict_iter slot_dict_values_iter slot_zip_next unpack unpackK wpAny_dictEntries wpAny_dictEpoch wpAny_isInstance wpAny_isOneOf_keyiter wpAny_nextOf_list_end wpAny_notOrdered_dict wpAny_onRaise wpAny_pyIter_slot wpAny_pyNext_list_end wpAny_pyNext_list_item wpAny_seqItems wpAny_setField wpAny_typeNameOfWhole_keyiter wpAny_typeNameOfWhole_valiter[a2 (uL j) b][fp y _ _][qm rfl][bh.1▸I][λT=>A.lt_irrefl _ (D.sG _ T)][t7 ak][mq B 2 4 rfl][(V.bs b5)](E:l6 s w tt X e d.o aX p)[ab▸x0][ab▸x2][λY=>[]][.bU f ag](y:dX au e d.o)[bD (xZ G y D r1 b λj9 bp t1 o1 aC x1 a4 da a3=>?_)][y.lV x1][bD (xZ (d:={d with o:=bp,aY:=t1}) da f_ a4 (r2.lV y x1) a3 λlI a5 t2 o2 ak x2 bA cG bo=>?_)][x1.L x2]{y:bm}{r:P}{V:bc bT}[.ao r]{h g:ae}(lo:(r==sysModules)=false)[aR.cB.d9 r>>=_][m (fH K dd (m (fI K dd ?_)))]{H:l aj->as->Prop}[(E:ax)](ay:a.be= .aQ bd)[fA (gl+1)]{H:α->as->Prop}[∃a,g.Q b=k a/\a.be= .aQ "StopIteration"][.ao b][by size_fits]{f:bT}(am:d.o.cC ad r E V.S ai)(N:V[E]?=k f)[cs aa.aq.dn al aa.aq.entry_dict_valueiterator_next ?_ (aa.aq.args_dict_valueiterator_next_1 _)][ah (m (wpAny_fieldsOf K af ?_))]{aP:bc aj}[ah (m (m (m (fU al gw))))][(Tz N:eq=k f)][m (fU al b8)][fB du 1 gn>>=_][fS K af (A.lt_of_sub_pos (A.d_ 2)) (m (bD ?_))][ah (ah ⟨_,rfl,ah (aG _ xA (ae.cd.cR ..))⟩)](am:d.o.dU ad r E V.S ai)[cs aa.aq.dm al aa.aq.entry_dict_keyiterator_next ?_ (aa.aq.args_dict_keyiterator_next_1 _)][ah (m (m (m (fT al gw))))][(by decide:aR.c4.fy "dict_keyiterator"=false)][m (fT al b8)](N:V[E]?=none)(aG:∀g,ae.dT ad d.o g->H none aZ)[(Tz N:eq=none)][fB du 0 .none>>=_][fS K af (A.d_ 3) ?_][fJ (bd:="StopIteration") (c:=true) M fm (ah (aG _ λc a q xj=>b0 _ _ ((ae.cd.cR ..).F c a q xj)))][{be:= .aQ "list_iterator",aL:= .bf #[.ao y,.av 0 0]}][f.pP b R][j b][D.base c a b]{aB:l ef}(G:FR au aB aK jF e h){C:aj->as->Prop}(aw:e2 T TI TO bJ bK l1 l2)(I:cD d.o T TI TO .none)[.ao bJ][.ao bK](hTI:bu d.o TI gY gZ)(hTO:bu d.o TO i c)(bp:d.o.a9 bJ l1 k1)(a5:d.o.a9 bK l2 k2)(hl1:d.o.c5 l1 xs)(hl2:d.o.c5 l2 ys)(cI:xs[k1]?=none\/ys[k2]?=none)[bp.F ba.F aw.i1z][hl1.F ba.F aw.l1z][ae.fi _ b][ba.F _ _ ar f][.ao s][fA i][.cq p]{j:l jD->U bV}[f+n*eD][((l.d8 q).bs λaD:A=> .av he)][uL j c0][(c,none)][.ao B][.ao dN][(λt:jE=>t[ap]?=k (.cq xs)/\t[q]?=k (.cq ys)/\t[aD]?=k .oB)][xs.aM j][ys.aM j][l.dr (λf W=> .aV [f,W]) hl hm][jD×jD][(λt:jE=>t[q]?=k eE)][((V.bs b5).aM j)]{aJ:bx->Prop}[⟨r,n,CD c⟩](b:fG v j t=k z)(K:v∉an e)(b1:v∉au)[a6 _ (l.dh _ l.bB)]{p:l α}[fa N][l.db.mp N][e9 N](a_:e[q]?=k b_){B aD:A}(K:t[aD]?=k .oB)[λY s'=>m5 v s'](t:jE)(w tt:bG)(X:l P)(e:jV)(aX:jE->Prop)(p:l jD)[tt=true->uS y=true][λa bk=>d.o.aU.S<=bk.o.aU.S->OR x y aI m5 C s a bk][∀c a,d.o.Q c=k a->c∉X->g.Q c=k a][(f+·)][{d with o:=g,aY:=d.aY+1}][(j:ax)](aW:s∉an e)bi bs cl cw dp fn fr gl id:True:=x
mutual
section
open aa.c3 aa.c6
mutual
section
variable {x:cc}{d:as}{C:aj->as->Prop}
theorem ahj{ad p:P} gx(bg:p≠ad):∀(q E:A) dJ (H:l aj->as->Prop),d.o.a9 ad p E->d.o.c5 p aP->E+q<=aP.S->
  (∀g,g.a9 ad p (E+q)->ae.cd ad d.o g->H ((aP.bO.aM E).dp q) aZ)->J Z.U x (draw du q) H C d:=by
 intro q;induction q with
 |zero=>intro E d H am _ _ aG;have:=aG d.o am (ae.cd.refl ..);rw[l.take_zero] at this;exact ah this
 |succ q ih=>
  intro E d H am cm hle aG;have cn:E<aP.S:=dS
  have N:aP[E]?=k aP[E]:=bc.getElem?_eq_getElem cn;refine m (fQ am cm N λdf Kc ba=>?_);refine m (bD (ih ct _ _ Kc (cm.F ba.F bg) dS λb3 ajs bi=>ah ?_));have b:(aP.bO.aM E).dp ei=aP[E]::(aP.bO.aM ct).dp q:=by rw[l.e_ (by simpa using cn),l.take_succ_cons];simp
  have:=aG b3 (by rw[show E+ei=E+1+q by omega];exact ajs) (ba.L bi);rw[b] at this;exact this
theorem aqM{y:P} gx gk bw(bj:d.o.c5 y aP)
  (aG:∀g,ae.dT d.o.aU.S d.o g->H aP.bO aZ):J Z.U x (dq (.ao y) aP.S none) H C d:=by
 have cn:y≠d.o.aU.S:=by obtain ⟨a,K,_⟩:=bj;exact A.fu (ae.cM K)
 unfold dq notIterableAtAll;refine m (m (wpAny_specialOf bj.bC slot_list_iter.d5 b8));rw[bb a7];refine m (bD (wpAny_pyIter_list bj ?_));have ajp:(d.o.b4 gP).a9 d.o.aU.S y 0:=⟨_,ae.fj _ rfl,rfl,rfl⟩;refine m (bD (ahj cn aP.S 0 {d with o:=d.o.b4 gP} _ ajp (bj.b4 _) dS λdf Kc ba=>?_));have hall:(aP.bO.aM 0).dp aP.S=aP.bO:=by rw[l.drop_zero];exact l.take_of_length_le dF
 rw[hall,bb dF];refine m (bD (fP ab Kc ((bj.b4 _).F ba.F cn) dF λb3 aji=>?_));exact ah (aG b3 λc a R b=>aji c a R (ba.F c a R g9))
theorem So dG cv b9 dI dK hd ca gk bt bw cz dO
  ht(de:∀p,j p t=k z->p.br=q)
  (h:∀p ws g,eG->Ext e d.o e g->az e t g->jR e g p ws->j p t=k z->H ws aZ):J Z.U x eH H C d:=by
 have fin:∀{p ws i},O= .ao i->jR e d.o p ws->j p t=k z->(∀{Q':l aj->as->Prop},(∀g,ae.dT d.o.aU.S d.o g->Q' ws aZ)->J Z.U x (dq dQ ws.bN.S none) Q' C d)->
   J Z.U x eH H C d:=by
  intro p ws i b1 j6 b fl;clear rv;subst b1;have cK:q=ws.bN.S:=by rw[<-de p b,j6.br];simp
  rw[cK];refine Aw (fl λg M I=>?_);have f:Ext e d.o e g:= .keeps I λc a bX=>M c a eR bX;exact h p ws g (λc a bX=>M c a eR bX) f (D.keeps I λc a bX=>M c a eR bX) (j6.ext f) b
 have bM:bnd (Mine.Internal.ry v) j t=k z->J Z.U x eH H C d:=λb=>by obtain ⟨p,i,vs,b1,bp,a5,e',_⟩:=D.ry rv b;exact fin b1 a5 e' λaT=>aqM ab bp aT
 unfold fG at b;cases v with
 |aV p=>
  cases rv with
  |aV i c n=>exact fin rfl n b λaT=>wpAny_unpackItems_tuple ab c aT
 |_=>exact bM b
theorem aqK dG cv b9 dI dK hd ca c2{cO:l (bG×(aj->Sem Unit))} bw cz dO
  ht(hstar:cO.findIdx? (·.1)=none)(de:∀p,j p t=k z->p.br=cO.br)
  (h:∀p ws g,eG->Ext e d.o e g->az e t g->jR e g p ws->j p t=k z->J Z.U x (e5 (cO.bs b5) ws) H C aZ):J Z.U x (fF O cO) H C d:=by
 unfold fF;rw[hstar];exact m (bD (So ab D rv b de h))
variable {au:l P}{aB:l ef}{aK:Env}{bV:Type}
noncomputable def di:bm->l a1:=λb=>qk b f6 (λf Y=>[f])
theorem asR(f:a1)(ag:bI):di f7=[f]:=rfl
noncomputable def vV:bm->l a1:=λb=>mJ b f6 (nm:=λf Y=>[f]) (qH:=λts Y Y=>ts.ff di)
noncomputable def vv(aB:l ef)(ns:l a1)(jF k7:jL):Prop:=k7.br=jF.br/\∀E,(∀f∈ns,∀c,lk aB f≠k (.slot E c))->k7[E]?=jF[E]?
theorem vv.L{ns ns':l a1}{i c n:jL}(f:vv aB ns i c)(W:vv aB ns' c n):vv aB (ns++ns') i n:=
 ⟨W.1.L f.1,λE h=>(W.2 E λT I=>h T (l.mem_append_right _ I)).L (f.2 E λT I=>h T (l.mem_append_left _ I))⟩
set_option tactic.hygienic true in
theorem xZ cW cv b9{f:a1} dI dK eg ca c2{pos:bI} eh f8 cz dO
  (b:rR aB f v jF j t=k z)(h:∀k7 g tk,vv aB [f] jF k7->sZ au d.o g->kK au e d.o e g->az e t g->FR au aB aK k7 e g->j k7 t=k z->H () bE):J Z.U x (e4 (.bU f pos) aK O) H C d:=by
 unfold rR at b;cases N:lk aB f with
 |none=>rw[N] at b;cases b
 |k w=>
  rw[N] at b;cases w<;>try (cases b;done)
  rename_i E c;dsimp only at b;cases R:A.blt E jF.br with
  |false=>rw[R] at b;cases b
  |true=>rw[R] at b;exact wpAny_assign_Name (G.store y D N rv λg tk aC x1 a4 da=>h _ g tk ⟨by simp,λaD bZ=>l.getElem?_set_ne λ(T:E=aD)=>bZ f dF c (by rw[<-T];exact N)⟩ aC x1 a4 da b)
inductive qM:l bm->Prop
 |cQ (f:a1) (ag:bI) (W:a1) (w:bI):qM [.bU f ag,.bU W w]
 |cP (f:a1) (ag:bI) (W:a1) (w:bI) (T:a1) (z:bI):qM [.bU f ag,.bU W w,.bU T z]
inductive uw:bm->Prop
 |name (f:a1) (ag:bI):uw f7
 |aV {ts:l bm} {i c}:qM ts->uw (.c8 ts i c)
theorem Gn dG b6{j:jD->jD->U bV} b9 ca(b:cQ p j t=k z):∃i c,p=[i,c]/\j i c t=k z:=by rcases p with _|⟨i,_|⟨c,_|⟨n,p⟩⟩⟩<;>first|exact ns_ b|exact ⟨_,_,rfl,b⟩
theorem Gj dG b6{j:jD->jD->jD->U bV} b9 ca(b:cP p j t=k z):∃i c n,p=[i,c,n]/\j i c n t=k z:=by rcases p with _|⟨i,_|⟨c,_|⟨n,_|⟨r,p⟩⟩⟩⟩<;>first|exact ns_ b|exact ⟨_,_,_,rfl,b⟩
theorem aoJ cW cv b9{ts:l bm} b6{ws:l aj} eg ca c2 eh f8 cz
  (rv:jR e d.o p ws)(hts:qM ts)(b:CI aB ts p jF j t=k z)(h:∀k7 g tk,vv aB (ts.ff di) jF k7->sZ au d.o g->kK au e d.o e g->az e t g->FR au aB aK k7 e g->j k7 t=k z->H () bE):
  J Z.U x (e5 ((assignEach ts aK).bs b5) ws) H C d:=by
 induction hts with
 |cQ f ag W w=>obtain ⟨i,c,rfl,b⟩:=Gn b;obtain ⟨u,v,rfl,r1,r2⟩:=rv.cQ;refine m f9;refine m ga;exact ah (h lI a5 t2 (o1.L o2) (aC.L ak) gb bA cG bo)
 |cP f ag W w T u=>obtain ⟨i,c,n,rfl,b⟩:=Gj b;obtain ⟨u,v,O,rfl,r1,r2,r3⟩:=rv.cP;refine m f9;refine m ga;refine m (bD (xZ (d:={d with o:=a5,aY:=t2}) cG (y.lV gb) bA ((r3.lV y x1).lV f_ x2) bo λqK fk t3 o3 aF x3 cH fe cj=>?_));exact ah (h qK fk t3 (o1.L (o2.L o3)) ((aC.L ak).L aF) ((x1.L x2).L x3) cH fe cj)
theorem Ju cW cv b9 gc dI dK eg ca c2 bw eh(tm:dX au e d.o) cz dO
  (bj:uw y)(b:w4 aB y v jF j t=k z)(h:∀k7 g tk,vv aB (vV y) jF k7->sZ au d.o g->kK au e d.o e g->az e t g->FR au aB aK k7 e g->j k7 t=k z->H () bE):J Z.U x (e4 y aK O) H C d:=by
 induction bj with
 |name=>exact xZ G tm D rv b h
 |aV bj=>
  rw[arm_assign_Tuple];refine m (wpAny_standAt ?_);refine aqK ab D rv b (by clear b h;induction bj<;>rfl) (λp a3=>?_) λp ws bp k1 x1 a4 j6 a3=>?_
  ·induction bj with
   |cQ=>obtain ⟨_,_,rfl,_⟩:=Gn a3;rfl
   |cP=>obtain ⟨_,_,_,rfl,_⟩:=Gj a3;rfl
  ·exact aoJ (d:={d with o:=bp}) (G.ext x1) (tm.ext x1) a4 j6 bj a3 λlI a5 t2 o2 ak x2 bA cG bo=>h lI a5 t2 o2 (λc a b R=>ak c a (k1 c a b) R) ((x1.O au).L x2) bA cG bo
end
end
mutual
section
open aa.c3 aa.c6
noncomputable def oU(h:ae)(r:P)(V:bc bT)(ai:A):Prop:=∃a,h.Q r=k a/\a.ExactDict/\a.aL= .dict V ai
theorem oU.aQ ej gd ge cX(f:oU d.o r V ai):d.e1 gf "dict":=let ⟨a,K,ay,_⟩:=f;⟨a,K,ay.1⟩
theorem oU.at gg gd ge cX(f:oU h r V ai)(b:∀a,h.Q r=k a->g.Q r=k a):oU g r V ai:=let ⟨a,K,z⟩:=f;⟨a,b _ K,z⟩
mutual
section
variable {x:cc}{d:as}{C:aj->as->Prop}{r ad:P}{V:bc bT}{ai E:A}
theorem anQ ek gh b7
  (aG:H el {d with o:=d.o.b4 {be:= .aQ "dict_keyiterator",aL:= .bf #[.ao r,.av 0 0,.av V.S 0,.av ai 0]}}):J Z.U x (fz gf) H C d:=by
 have al:=aO.aQ;obtain ⟨a,K,ay,dd⟩:=aO;refine fO al aa.aq.fC (cs aa.aq.fC al aa.aq.entry_dict_iter ?_ (aa.aq.args_dict_iter_1 _));unfold aR.«dict.__iter__» aR.cB.dictSlotNone;refine m (m (fM al b8));show J _ _ gi _ _ d;unfold aR.cB.d9;rw[lo,bb a7];refine m (ah gj);exact m (cV (ah ⟨_,rfl,"dict_keyiterator",_,em,aa.aq.dm.d5,aG⟩))
theorem anV ek gh b7
  (aG:H el {d with o:=d.o.b4 {be:= .aQ "dict_values",aL:= .bf #[.ao r]}}):J Z.U x (call (.builtin "dict.values") [.ao r]) H C d:=by
 refine cs aa.aq.slot_dict_values aO.aQ aa.aq.entry_dict_values ?_ (aa.aq.args_dict_values_1 _);refine m ?_;unfold aR.cB.noArgs;refine m (fM aO.aQ ?_);show J _ _ (dk r) _ _ d;refine ah ?_;show J _ _ gi _ _ d;unfold aR.cB.d9;rw[lo,bb a7];exact m (ah (m (cV (ah ⟨_,rfl,aG⟩))))
theorem anU dv ek(bq:d.o.IsValuesView v r) b7
  (aG:H el {d with o:=d.o.b4 {be:= .aQ "dict_valueiterator",aL:= .bf #[.ao r,.av 0 0,.av V.S 0,.av ai 0]}}):J Z.U x (fz (.ao v)) H C d:=by
 have al:=bq.bC;obtain ⟨ov,hov,asC,ai7⟩:=bq;obtain ⟨a,K,ay,dd⟩:=aO;refine fO al aa.aq.fD (cs aa.aq.fD al aa.aq.entry_dict_values_iter ?_ (aa.aq.args_dict_values_iter_1 _));unfold aR.«dict_values.__iter__» aR.c4.dictOf aR.c4.newIterator;refine m (ah (m (m (cU hov ai7 (f:= .ao r) rfl b8))));refine m gj;rw[en];show J _ _ (newObj (.aQ "dict_valueiterator") (.bf #[.ao r,.av 0 0,.av V.S 0,.av ai 0])) _ _ d;exact cV (ah ⟨_,rfl,"dict_valueiterator",_,em,aa.aq.dn.d5,aG⟩)
theorem R5 eo:¬((ep !=ep)=true):=λh=>by rw[bne_self_eq_false] at h;cases h
theorem Tz{f:bH bT}(h:V[E]?=f):eq=f:=(bb (ax.dj.aE (ax.natCast_nonneg E))).L h
theorem Sn bl er es bt(K:h.Q ad=k a)(af:a.aL= .bf #[.ao r,.av E 0,.av q 0,.av ai 0]) gm:
  ∃o',(h.cR ad et).Q ad=k o'/\o'.be= .aQ bd/\o'.aL= .bf #[.ao r,.av ((E+1:A):ax) 0,.av q 0,.av ai 0]:=
 ⟨_,ae.get?_update_self _ K (bx.isFreed_of_fields (bx.e8 af _)),(bx.cls_mapFields ..).L ay,bx.e8 af _⟩
theorem Um dw go bw(h:∀g b,eG->gp->C gq aZ):
  J Z.U x (fv (.aQ "StopIteration") []>>=λb=>raiseNew b) H C d:=by
 unfold fv newTuple;refine m (m (cV (m (ap:=firstArgMember _ _) (wpAny_of_eq (i:=aj.none) rfl (cV (wpAny_raiseNew_none ab ?_) gr))) gr));exact h _ _ (λc a b=>ae.fi _ g9) em
theorem anT gs cY gt b7 gu
  (aG:∀g,g.cC ad r ct V.S ai->ae.cd ad d.o g->H (k f.bv) aZ):J Z.U x dx H C d:=by
 have al:=am.bC;obtain ⟨a,K,ay,af⟩:=am;obtain ⟨od,co,_,xx⟩:=aO;refine m (cS (cT (name:=wW) al aa.aq.dn
  gv))
 refine m gy;rw[en];refine m dy;rw[bb dz];refine m dA;rw[bb dB];refine ah ?_;dsimp only;rw[gz];refine m gA;refine m (ea al ?_);show J _ _ gB _ _ d;have xA:(d.o.cR ad et).cC ad r ct V.S ai:=Sn (q:=V.S) (ai:=ai) K af ay;refine m gC;exact m (ea xA.bC (m (ea xA.bC gD)))
theorem anP gs cY gE b7 gu
  (aG:∀g,g.dU ad r ct V.S ai->ae.cd ad d.o g->H (k f.key) aZ):J Z.U x dx H C d:=by
 have al:=am.bC;obtain ⟨a,K,ay,af⟩:=am;obtain ⟨od,co,_,xx⟩:=aO;refine m (cS (cT (name:=wW) al aa.aq.dm
  gF))
 refine m gG;rw[gH];refine m dy;rw[bb dz];refine m dA;rw[bb dB];refine ah ?_;dsimp only;rw[gz];refine m gI;refine m (fK al ?_);show J _ _ gB _ _ d;have xA:(d.o.cR ad et).dU ad r ct V.S ai:=Sn (q:=V.S) (ai:=ai) K af ay;refine m gC;exact m (fK xA.bC gD)
theorem anS cY bw gt b7 gJ
  gK:J Z.U x dx H C d:=by
 have al:=am.bC;obtain ⟨a,K,ay,af⟩:=am;obtain ⟨od,co,_,xx⟩:=aO;refine m (cS (cT (name:=wW) al aa.aq.dn
  gv))
 refine m gy;rw[en];refine m dy;rw[bb dz];refine m dA;rw[bb dB];refine ah ?_;dsimp only;rw[gL];refine m gA;show J _ _ gM _ _ d;refine m gN;exact Um ab λg b b0 M=>m gO
theorem anO cY bw gE b7 gJ
  gK:J Z.U x dx H C d:=by
 have al:=am.bC;obtain ⟨a,K,ay,af⟩:=am;obtain ⟨od,co,_,xx⟩:=aO;refine m (cS (cT (name:=wW) al aa.aq.dm
  gF))
 refine m gG;rw[gH];refine m dy;rw[bb dz];refine m dA;rw[bb dB];refine ah ?_;dsimp only;rw[gL];refine m gI;show J _ _ gM _ _ d;refine m gN;exact Um ab λg b b0 M=>m gO
end
end
mutual
section
open aa.c3 aa.c6
mutual
section
variable {au X:l P}{e a8 pG:jV}{h g h'':ae}{t:jE}
theorem kK.CQ dC(W:mY X a8 g pG h'')(a6:∀v∈X,h.aU.S<=v):kK au e h pG h'':=
 have j:∀{c a},h.Q c=k a->c∉X:=λb w=>c_ eu (A.dj.aE (a6 _ w))
 ⟨f.pre.aA λτ i=>W.pre.aA λk8 n=>⟨τ++k8,n.1.L (i.1▸l.append_assoc e τ k8),λc R=>(l.mem_append.mp (xS τ k8▸R)).aA (i.2 c) λw=>A.cL f.S (n.2 c w)⟩,
  A.cL f.S W.S,λc a b R dc=>(f.dg c a b R dc).L λo' e'=>W.dg c o' e' gQ gR,
  λc a b R dc=>(f.typ c a b R dc).aA λo' r=>(W.dg c o' r.1 gQ gR).get.aA λY e''=>⟨_,e'',r.2⟩⟩
theorem az.mv cu dD(f:s8 X e h e g) ev(R:∀c a,Z.h₀.Q c=k a->g.Q c=k a)
  (d:∀eo (a:ko) (ag:P×bH P),t[q]?=k a->e[q]?=k ag->lg e h a ag->(∀i∈ag.1::ag.2.bO,g.Q i=h.Q i)\/lg e g a ag):az e t g:=by
 refine ⟨R,A.cL D.hT I,D.len,D.nd,D.dY,λq a b=>?_⟩;obtain ⟨ag,a_,z⟩:=D.ro q a b;rcases d q a ag b a_ z with w|w
 ·exact ⟨ag,a_,z.mv y f w⟩
 ·exact ⟨ag,a_,w⟩
theorem az.v cu dD ev(j:∀c a,h.Q c=k a->c∉X->g.Q c=k a)(K:∀v∈X,v∉an e):mY X e h e g/\az e t g:=by have f:mY X e h e g:=⟨⟨[],by simp,by simp [an]⟩,I,λc a b Y a6=> .same (j c a b a6)⟩;refine ⟨f,D.mv y f.mv I (λc a b=>j c a gS λw=>c_ eu (A.dj.aE (y c w).1)) λq a ag cK a_ z=> .inl λi bY=>?_⟩;have cl:i∈an e:=l.fr.aE ⟨ag,l.fs a_,bY⟩;obtain ⟨ob,b⟩:=D.alive cl;rw[b,j i ob b λw=>K i w cl]
theorem FR.S4 gT ew cW gU dD dE(cm:aK.fq∉X)(af:∀v∈X,∀a,h.Q v=k a->cF a.aL≠1):FR au aB aK jF a8 g:=by
 obtain ⟨ap,aO,bq⟩:=G.ns;have afJ:∀{i u},h.IsCell i u->i∉X:=λq w=>by obtain ⟨a,b,r⟩:=zL q;have:=af _ w a b;omega
 have nl:aK.fq∉an a8:=by obtain ⟨a,_,_,K,_⟩:=aO;exact (f.cp _ _ K G.low.2.1 cm).1
 refine ⟨G.hX,G.hZ,G.hS,G.plain,G.glob,G.vR,G.out,G.lt,G.inj,⟨ap,La aO λa b=>(f.cp _ _ b G.low.2.1 cm).2,λW E c v a3 bo cj=>?_⟩,λW E a3 bo=>?_,G.apart,⟨G.low.1,nl,G.low.2.2⟩,G.hV⟩
 ·obtain ⟨O,i,c⟩:=bq W E _ v a3 bo cj;exact ⟨O,i,c.mv y f⟩
 ·obtain ⟨n,u,aC,ak,aF,aW,bz⟩:=G.hU W E a3 bo;have ay:=afJ aW;refine ⟨n,u,aC,?_,aF,R6 aW λa b=>(f.cp _ _ b ak ay).2,λv b=>?_⟩
  ·obtain ⟨a,K,_⟩:=aW;exact (f.cp _ _ K ak ay).1
  ·obtain ⟨O,cE,cg⟩:=bz v b;exact ⟨O,cE,cg.mv y f⟩
theorem FR.mv gT ew cW gU dD dE ex:FR au aB aK jF a8 g:=by
 refine G.S4 y f (λw=>?_) λv bq a b=>by have:=af v bq a b;omega
 obtain ⟨ap,aO,_⟩:=G.ns;obtain ⟨a,b,r⟩:=qT aO;have:=af _ w a b;omega
theorem pW.mv ew(G:pW e h aK) dE ex:pW a8 g aK:=by
 obtain ⟨i,dW,a,c,n,r,b,G⟩:=G;obtain ⟨w,sl,e'⟩:=f.cp dW a b r λw=>by have:=af _ w a b;omega
 exact ⟨i,dW,_,c,n,w,e',G⟩
theorem kR.mv bt ey(z:kR q x e h) dE ex:kR q x a8 g:=
 let ⟨fh,i,c⟩:=z.hY
 ⟨z.af,z.hW,z.un,fh,i,λaK M=>(c aK M).mv f af⟩
end
end
mutual
section
open aa.c3 aa.c6
theorem BR dw{U:Model} ey ej{ap:Sem α} go gV(h:∀Q',J U x ap Q' C d):J U x ap H C d:=h H
theorem JC bl ez{a o':bx}{bd T':e0}(b:h.Q i=k a)(e':h.Q c=k o')(n:a.be= .aQ bd)(c':o'.be= .aQ T')(q:(bd==T')=false):i≠c:=λw=>by cases (n.symm.L ((a2 bx.be (bH.k.inj ((w▸b).symm.L e'))).L c'));exact bG.noConfusion ((beq_self_eq_true bd).symm.L q)
noncomputable def O3 dJ(T TI TO bJ bK:P)(g:ae):Prop:=(∃i c,bu g TO i c)/\cD g T TI TO .none/\(∀n a,n≠T->n≠TO->n≠bJ->n≠bK->d.o.Q n=k a->g.Q n=k a)
mutual
section
variable {x:cc}{d:as}{T TI TO bJ bK l1 l2:P}{k1 k2:A}{xs ys:bc aj}{i c:aj}{C:aj->as->Prop}
theorem arY{H:Fin->as->Prop} bw gW
  gX g0 g1
  g2 g3 g4 g5 g6
  (d2:∀g b,O3 d T TI TO bJ bK g->gp->C gq aZ):J Z.U x (aR.«zip.__next__» ⟨[.ao T],[]⟩) H C d:=by
 show J _ _ (field cZ 2>>=_) _ _ _;refine m (cU I rfl (f:= .bool false) rfl ?_);show J _ _ (field cZ 3>>=_) _ _ _;refine m (cU I rfl (f:= .ao TI) rfl (m (fR hTI rfl ?_)));show J _ _ (aR.c7.fx cZ>>=_) _ _ _;unfold aR.c7.fx;refine m (m (cU I rfl (f:= .none) rfl b8));refine m (wpAny_rule (m (cU I rfl (f:= .ao TO) rfl ?_)));refine m (eb I eA λdf E3 ba=>?_);refine m (BR λQ'=>?_);have RA:bu df TO i c:=ba.F _ _ aw.TOz hTO;refine m (m (fN ?_));show J _ _ (aR.c7.fw gY>>=_) _ _ _;cases N:xs[k1]? with
 |none=>refine m (BR λQ'=>fL ab g7 g8 N λb3 b bi M=>M.aA λoe M=>?_);have RP:=bi _ _ aw.i1z.symm E3;exact eb RP eA λd4 Kn ql=>d2 d4 b ⟨⟨i,c,ql.F _ _ aw.TOz (bi _ _ aw.TOi1 RA)⟩,Kn,λn a ar Y bW Y f=>ql.F _ _ ar (bi _ _ bW g_)⟩ ⟨oe,ql.F _ _ (JC M.1 RP M.2 rfl a7) M.1,M.2⟩
 |k f=>
  have b2:ys[k2]?=none:=cI.aA (λh=>nomatch N.symm.L h) h0;refine m (wpAny_nextOf_list_item g7 g8 N λb3 Rr bi=>ah ?_);have RB:bu b3 TO i c:=bi.F _ _ aw.TOi1 RA;refine m (fR RB rfl (m (wpAny_updateSeq_pair RB λd4 ai1 ql=>m (wpAny_letGo b8))));refine m (BR λQ'=>m (BR λQ'=>fN ?_));show J _ _ (aR.c7.fw gZ>>=_) _ _ _;refine m (BR λQ'=>fL ab (((a5.F ba.F aw.i2z).F bi.F aw.i12.symm).F ql.F aw.TOi2.symm)
   (((hl2.F ba.F aw.l2z).F bi.F aw.l2i1).F ql.F aw.l2TO) b2 λh₄ b Kg M=>M.aA λoe M=>?_)
  have RQ:=Kg _ _ aw.i2z.symm (ql.F _ _ aw.TOz.symm (bi.F _ _ aw.i1z.symm E3));exact eb RQ eA λh₅ ajG Kh=>d2 h₅ b ⟨⟨f,c,Kh.F _ _ aw.TOz (Kg _ _ aw.TOi2 ai1)⟩,ajG,λn a ar aS bW e6 f=>Kh.F _ _ ar (Kg _ _ e6 (ql.F _ _ aS (bi.F _ _ bW g_)))⟩ ⟨oe,Kh.F _ _ (JC M.1 RQ M.2 rfl a7) M.1,M.2⟩
theorem arO cY bw gW
  gX g0 g1
  g2 g3 g4 g5 g6
  (aG:∀g,O3 d T TI TO bJ bK g->H none aZ):J Z.U x (dl cZ) H C d:=
 have al:d.e1 cZ "zip":=⟨_,I,rfl⟩
 m (cS (cT (name:=wW) al aa.aq.fE
  (cs aa.aq.fE al aa.aq.entry_zip_next (arY ab aw I hTI hTO bp a5 hl1 hl2 cI λg b b0 M=>
   m (fJ (bd:="StopIteration") (c:=true) M fm (ah (aG g b0)))) (aa.aq.args_zip_next_1 _))))
end
theorem ET ey ej gV gc{s:P} es{v:aj} dH c2(am:∃a,d.o.Q s=k a/\a.be= .aQ bd/\a.aL= .bf vs)
  (al:(["enumerate","zip","dict_itemiterator","dict_reverseitemiterator","odict_iterator","itertools.zip_longest","itertools.pairwise"].e7 bd)=false)(h:H () d):J Z.U x eB H C d:=by
 obtain ⟨a,K,ay,af⟩:=am;have key:∀i,J Z.U x (load s>>=λa=>match a.be,a.aL with
   | .aQ q,.bf vs=>
    if ["enumerate","zip","dict_itemiterator","dict_reverseitemiterator","odict_iterator","itertools.zip_longest","itertools.pairwise"].e7 q&&vs[0]?==k hb then do
     rule "for.unpacks-the-owned-tuple"
     updateField s 0 .none
    else dk ()
   |_,_=>dk ()) H C d:=λi=>by
  refine m (wpAny_load K ?_);rw[ay,af];refine (a2 (λc=>J Z.U x (if (c&&vs[0]?==k hb)=true then _ else dk ()) H C d) al).aE (ah h)
 cases y with
 |c8 _ _ _=>cases v with
  |ao i=>exact key i
  |_=>exact ah h
 |l _ _=>cases v with
  |ao i=>exact key i
  |_=>exact ah h
 |_=>exact ah h
inductive l6:P->bG->bG->l P->jV->ae->(jE->Prop)->l jD->Prop
 |bM {s i:P} {q j:A} {e:jV} {h:ae} {p:l jD}:e[q]?=k b_->h.a9 s i j->s∉an e->a0<=s->l6 s false false bQ e h dL c0
 |aV {s i:P} {j:A} {e:jV} {h:ae} {p:l jD}:jG e h eC dQ->h.eZ s i j->s∉an e->a0<=s->l6 s false false bQ e h dM c0
 |xY {s:P} {e:jV} {h:ae} {f n:ax} {q:A}:eY h s f q n->s∉an e->a0<=s->l6 s false false bQ e h dM hf
 |xh {s ad i:P} {q j:A} {e:jV} {h:ae} {old:aj} {p:l jD}:e[q]?=k b_->eX h s ad (j:ax) old->h.a9 ad i j->s∉an e->ad∉an e->a0<=s->a0<=ad->s≠ad->l6 s false true [s,ad] e h dL hg
 |bP {B i c:P} {ap q aD j:A} {e:jV} {h:ae} {xs ys:l jD}:e[ap]?=k b_->e[q]?=k hh->e[aD]?=k cw->h.a9 B i j->h.a9 dN c j->bu h cx hi hj->
   B∉an e->B+1∉an e->B+2∉an e->a0<=B->l6 bS false true cy e h hk hn
 |bv {s i:P} {q j ai:A} {e:jV} {h:ae} {V:l ho} {bn:bc bT}:e[q]?=k b_->oU h i bn ai->h.cC s i j bn.S ai->tT V=true->s∉an e->a0<=s->l6 s true false bQ e h hp hq
mutual
section
variable {s:P}{w tt:bG}{X au:l P}{e a8:jV}{h g:ae}{aX:jE->Prop}{p:l jD}{t:jE}
theorem CD dv hr dH(f:∃a,h.Q v=k a/\aJ a/\a.aL= .bf vs):∃a,h.Q v=k a/\cF a.aL=2:=let ⟨a,K,_,af⟩:=f;⟨a,K,by rw[af];rfl⟩
theorem l6.d6 eF:∀v∈X,a0<=v/\v∉an e/\∃a,h.Q v=k a/\cF a.aL=2:=by
 induction E with
 |bM i c n r=>exact l.ck.aE hs
 |aV i c n r=>exact l.ck.aE hs
 |xY c n r=>exact l.ck.aE ⟨r,n,_,c,rfl⟩
 |xh i c n r b G D bg=>exact l.fg.aE ⟨⟨G,r,_,c,rfl⟩,l.ck.aE ⟨D,b,CD n⟩⟩
 |bP i c n r b G a4 bA cH mV=>exact l.fg.aE ⟨⟨mV,a4,CD r⟩,l.ck.aE ⟨A.le_succ_of_le mV,bA,CD b⟩⟩
 |bv i c n T r b=>exact l.ck.aE ⟨b,r,CD n⟩
theorem l6.tU eF:pY X h:=λv bq=>by obtain ⟨i,_,a,K,af⟩:=E.d6 v bq;refine ⟨i,λvs y=>?_⟩;obtain ⟨o',e',d'⟩:=Ky y;rw[K] at e';cases e';omega
theorem Fl dC dv er(b:h.Q v=k a) hu hv(af:cF a.aL≠0):g.Q v=k a/\v∉an a8:=⟨(f.dg _ _ b K b1).exact af,f.pP b K⟩
theorem zP dC dv hr dH(c:∃a,h.Q v=k a/\aJ a/\a.aL= .bf vs) hu hv:(∃a,g.Q v=k a/\aJ a/\a.aL= .bf vs)/\v∉an a8:=
 let ⟨a,b,ay,af⟩:=c
 let j:=Fl f b K b1 (by rw[af];exact nofun)
 ⟨⟨a,j.1,ay,af⟩,j.2⟩
theorem l6.cp eF(y:dX au e h) dC:(∀v∈X,v∉au)->(w=true->∀c a,h.Q c=k a->c∉au->g.Q c=k a)->l6 s w tt X a8 g aX p:=by
 induction E with
 |bM i c n r=>exact λa6 Y=>let j:=zP f c n cA; .bM dP j.1 j.2 r
 |aV i c n r=>exact λa6 Y=>let j:=zP f c n cA; .aV (i.lV y f) j.1 j.2 r
 |xY c n r=>exact λa6 Y=>let j:=Fl f c n cA nofun; .xY j.1 j.2 r
 |xh i c n r b G D bg=>
  exact λa6 Y=>
   let j:=Fl f c r cA nofun
   let k':=zP f n b hw
   .xh dP j.1 k'.1 j.2 k'.2 G D bg
 |bP i c n r b G a4 bA cH mV=>
  exact λa6 Y=>
   let j:=zP f r a4 cA
   let k':=zP f b bA hw
   let k'':=Fl f G cH (y.z6 (i:=_) ⟨_,G,rfl,_,rfl⟩) (by decide:(3:A)≠0)
   .bP dP (f.pR c) (f.pR n) j.1 k'.1 k''.1 j.2 k'.2 k''.2 mV
 |bv i c n T r b=>
  exact λa6 aT=>
   let j:=zP f n r cA
   .bv dP (c.at λa xj=>aT rfl _ a xj λaO=>(y _ aO).2.1 (t7 i)) j.1 T j.2 b
end
theorem fa dw hx cb(h:p[j]?=none):p.aM j=[]:=l.drop_eq_nil_iff.aE (l.db.mp h)
theorem e9 dw hx cb{f:α}(h:p[j]?=k f):p.aM j=f::p.aM eI:=by obtain ⟨bp,rfl⟩:=l.getElem?_eq_some_iff.mp h;exact l.e_ bp
noncomputable def uS:bm->bG:=λb=>QJ b (λY=>false) (λY Y Y=>true)
theorem ame ez(h:c∉[i]):c≠i:=λb=>h (l.mem_singleton.aE b)
theorem jR.cr cv bl b6{vs:l aj}(n:jR e h p vs) eJ eK(i:p.aM j=[]->vs.bN[j]?=none->aJ)
  (c:∀f O,p.aM j=f::p.aM eI->vs.bN[j]?=k O->jG e h f O->aJ):aJ:=by
 cases N:p[j]? with
 |none=>exact i hy (bc.db.aE (A.cL (A.fn n.br.symm) hz))
 |k f=>exact (n.get j f N).aA λO b=>c f O hA (l.getElem?_toArray.L b.1) b.2
mutual
section
variable {s:P}{w tt:bG}{X:l P}{e:jV}{aX:jE->Prop}{p:l jD}{t:jE}{x:cc}{d:as}{y:bm}{aI:as->Prop}{m5:aj->as->Prop}{C:aj->as->Prop}
theorem Cq ez(bY:i∈an e)(R:c∉an e):i≠c:=λb=>R (b▸bY)
theorem mq(B i c:A)(h:A.beq i c=false):B+i≠B+c:=λb=>A.ne_of_beq_eq_false h (A.add_left_cancel b)
theorem az.l_ bt bF bl cu hB(K:t[q]?=k hc) eK(j:∀vs:l aj,ng h i vs.bN->jR e h p vs->aJ):aJ:=by
 obtain ⟨ag,aT,ro⟩:=D.ro q _ K;cases a_.symm.L aT;cases ro with
 |cq ar aS bW=>exact j _ ar aS
theorem lg.bP{B:A} bl(z:lg e h .oB cw):cD h bS cx bR .none/\∃f W,bu h bR f W:=by
 generalize a_:(cw:P×bH P)=ag at z;cases z with
 |@oB S' f W i c=>cases (A.add_right_cancel (a2 Prod.fst a_):B=S');exact ⟨i,f,W,c⟩
theorem az.VM hC bl cu(a_:e[aD]?=k cw) hD:cD h bS cx bR .none/\∃f W,bu h bR f W:=by obtain ⟨ag,aT,ro⟩:=D.ro aD _ K;cases a_.symm.L aT;exact ro.bP
theorem as2 bt{i r:P}(h:e[q]?=k (i,k r)):i∈an e/\r∈an e:=⟨t7 h,Lu h⟩
theorem az.VV hC gg{f W:aj} cu(nZ:pY cy h) ev(bZ:e[aD]?=k cw) hD(a6:∀v∈[B,B+1],v∉an e)
  (j:∀n a,n≠B+4->n≠B+3->n≠B->n≠B+1->h.Q n=k a->g.Q n=k a)(T:cD g bS cx bR .none)(ag:bu g bR f W):mY cy e h e g/\az e t g:=by
 have nu:=t7 bZ;have o3:=Lu bZ;have k':∀c a,h.Q c=k a->c∉cy->c≠B+4->c≠B+3->g.Q c=k a:=λc a b q n4 n3=>
  j c a n4 n3 (λw=>q (w▸l.bB)) (λw=>q (w▸l.dh _ l.bB)) b
 have x1:mY cy e h e g:=⟨⟨[],(l.append_nil e).symm,λY w=>nomatch w⟩,I,λc a b R q=> .same (k' c a b q (λw=>R (w▸nu)) λw=>R (w▸o3))⟩;have qx:∀{c a},Z.h₀.Q c=k a->∀{n},a0<=n->c≠n:=λb Y ay w=>c_ eu (A.dj.aE (w▸ay));refine ⟨x1,D.mv nZ x1.mv I (λc a b=>k' c a gS (λap=>qx b (nZ c ap).1 rfl) (qx b (D.dY _ nu)) (qx b (D.dY _ o3))) λq a w cK aT z=>?_⟩;by_cases Kd:q=aD
 ·refine .inr ?_;cases (Kd▸aT:e[aD]?=k w).symm.L bZ;clear z;cases (Kd▸cK:t[aD]?=k a).symm.L K;exact .oB T ag
 ·refine .inl λi bY=>?_;have cl:i∈an e:=l.fr.aE ⟨w,l.fs aT,bY⟩;obtain ⟨ob,b⟩:=D.alive cl;have bg:=F6 D.nd aT bZ Kd bY;exact (k' i ob b (λap=>a6 i ap cl) (λT=>bg (T▸l.bB)) λT=>bg (T▸l.dh _ l.bB)).L b.symm
noncomputable abbrev OR eL eM eN eO eP eQ(a:bH aj)(bk:as):Prop:=match a with|none=>aI bk|k v=>J Z.U x eB hE C bk
noncomputable def IG eL eM eN eO eP dJ hF eQ hG hH hI hJ hK:Prop:=
 x.d3=none->az e t d.o->aX t->hL->pY X d.o->(∀v∈X,v∉an e)->(p=[]->∀g tk,mY X e d.o e g->az e t g->aI bE)->
 (∀f z O g tk,p=f::z->mY X e d.o e g->az e t g->jG e g f O->l6 s w tt X e g aX z->m5 O bE)->
 J Z.U x eS hM C d
noncomputable def wC eL eM eN eO eP dJ hF eQ hG hH hI hJ hK:Prop:=
 x.d3=none->az e t d.o->aX t->hL->(p=[]->∀g tk,d.o.aU.S<=g.aU.S->hN->aI bE)->
 (∀f z O g tk,p=f::z->d.o.aU.S<=g.aU.S->hN->((∀v O,jG e d.o v O->jG e g v O)->jG e g f O/\l6 s w tt X e g aX z)->m5 O bE)->
 J Z.U x eS hM C d
theorem wC.nx(f:wC x y aI m5 C d t s w tt X e aX p):IG x y aI m5 C d t s w tt X e aX p:=λab D aH qm nZ pl M aN=>
 f ab D aH qm (λb g tk I j=>(D.v nZ I j pl).aA (M b g tk)) λf z O g tk b I j G=>
  (D.v nZ I j pl).aA λx1 a4=>(G λY Y z=>z.mv nZ x1.mv).aA (aN f z O g tk b x1 a4)
theorem amz bF bt cb b6 eT(ak:d.o.a9 s i j) eU eV:wC x y aI m5 C d t s false false bQ e dL c0:=
 λab D aH Y M aN=>D.l_ aC aH λvs ar aS=>aS.cr j
  (λb N=>fP ab ak ar.bL N λg R I=>M b g d.aY I λc a e' ap=>R c a c1 e')
  λf O b N rx=>fQ ak ar.bL N λg am R I=>
   ET (d:=aZ) am a7 (aN f _ O g d.aY b I dR λG=>⟨G f O rx,.bM aC am aF aW⟩)
theorem jG.aqd bl bF(z:jG e h eC dQ):∃vs:l aj,IsTup h i vs.bN/\jR e h p vs:=by
 cases z with
 |aV cE cg lK=>exact ⟨_,cg,lK⟩
theorem amB bF cb b6(aC:jG e d.o eC dQ)(ak:d.o.eZ s i j) eU eV:wC x y aI m5 C d t s false false bQ e dM c0:=
 λab D aH Y M aN=>aC.aqd.aA λvs n=>n.2.cr j
  (λb N=>wpAny_pyNext_tuple_end ab ak n.1 N λg R I=>M b g d.aY I λc a e' ap=>R c a c1 e')
  λf O b N rx=>wpAny_pyNext_tuple_item ak n.1 N λg am R I=>
   ET (d:=aZ) am a7 (aN f _ O g d.aY b I dR λG=>⟨G f O rx,.aV (G _ _ aC) am aF aW⟩)
theorem aoa(f n:ax) eo:(l.d8 ei).bs (λaD:A=>jD.av he)= .av f::(l.d8 q).bs λaD:A=> .av (f+n+n*eD):=by
 refine l.range_succ_eq_map▸l.cons_eq_cons.aE ⟨a2 jD.av ?_,l.map_map.L (l.map_congr_left λaD Y=>a2 jD.av ?_)⟩
 ·exact (a2 hO (ax.mul_zero n)).L (ax.add_zero f)
 ·exact (a2 hO ((ax.mul_add n aD 1).L ((ax.add_comm _ _).L (a2 (· +n*eD) (ax.mul_one n))))).L (ax.add_assoc _ _ _).symm
theorem amA{f:ax}{n:ax} bt(ak:eY d.o s f q n) eU eV:wC x y aI m5 C d t s false false bQ e dM hf:=
 by
  cases q with
  |zero=>exact λab D aH Y M aN=>wpAny_pyNext_range_end ab ak (ax.le_refl _) λg R I=>M rfl g d.aY I λc a e' ap=>R c a c1 e'
  |succ q=>exact λab D aH Y M aN=>wpAny_pyNext_range_item ak (ax.natCast_pos.aE (A.d_ q)) λg am R I=>ET (d:=hP) ⟨_,am,rfl,rfl⟩ a7 (aN _ _ _ g _ (aoa f n q) I dR λG=>⟨.av _ _,.xY ((ax.add_sub_cancel ep 1:((q+1:A):ax) -1=q)▸am) aF aW⟩)
theorem TU{aJ:bm->Prop}(h:uS y=true)(j:∀i c n,aJ (.c8 i c n)):aJ y:=by
 cases y with
 |c8 i c n=>exact j i c n
 |_=>exact nomatch h
theorem FY{i c n:P}(h:n∉[i,c]):n≠i/\n≠c:=⟨λb=>h (b▸l.bB),λb=>h (b▸l.dh _ l.bB)⟩
theorem amy{ad:P} bF bt cb{old:aj} b6 eT(ak:eX d.o s ad hQ old)(aF:d.o.a9 ad i j) hR(bz:ad∉an e)(ce:a0<=s)(cf:a0<=ad)(bg:s≠ad):wC x y aI m5 C d t s false true [s,ad] e dL hg:=
 λab D aH qm M aN=>D.l_ aC aH λvs ar aS=>aS.cr j
  (λb N=>wpAny_pyNext_enum_end ab ak aF ar.bL N λg R I=>M fV g d.aY I λc a e' ap=>R c a (FY ap).2 e')
  λf O b N rx=>wpAny_pyNext_enum_item ak aF ar.bL N bg λg ajh am htp hsz R I=>
   TU (aJ:=λy=>J Z.U x fW _ _ _) fX λY Y Y=>wpAny_letOwnedTupleGo_enum (d:=hP) ajh λa5 zG bh=>
    have b0:=λc a (e':d.o.Q c=k a) ap=>bh.F c a (FY ap).1 (R c a (FY ap).1 (FY ap).2 e')
    aN _ _ _ a5 _ fV fY b0 λG=>
     ⟨.aV fZ (vs:=[.av hQ d.aY,O]) ⟨_,bh.F _ _ (A.ft (ae.cM ak)) htp,rfl,_,rfl⟩ (.ch (.av _ _) (.ch (G _ _ rx) .nil)),
      .xh aC zG (am.F bh.F bg.symm) aW bz ce cf bg⟩
theorem ng.cN bl{i T:P} dH er es(ag:ng h i vs)(b:h.Q T=k a) gm(al:("list"==bd)=false):i≠T:=ag.aA λY e'=>JC e' b rfl ay al
theorem amD{B:P} bF{c:P}{ap:A} bt{aD:A} cb{xs:l jD}{ys:l jD}(aC:e[ap]?=k b_)(ak:e[q]?=k hh)(aF:e[aD]?=k cw)(aW:d.o.a9 B i j)(bz:d.o.a9 dN c j)(ce:bu d.o cx hi hj)(cf:B∉an e)(c9:B+1∉an e)(e3:B+2∉an e)(aef:a0<=B):IG x y aI m5 C d t bS false true cy e hk hn:=
 λab D aH qm nZ pl M aN=>D.l_ aC aH.1 λvs ar aS=>D.l_ ak aH.2.1 λus ci d0=>(D.VM aF aH.2.2).aA λz1 hto=>hto.aA λx0 hto=>hto.aA λy0 z2=>by
  have aw:e2 bS cx bR B dN i c:=⟨mq B 2 4 rfl,mq B 3 4 rfl,mq B 0 4 rfl,mq B 1 4 rfl,mq B 2 3 rfl,mq B 2 0 rfl,mq B 2 1 rfl,mq B 3 0 rfl,mq B 3 1 rfl,mq B 0 1 rfl,
   ar.cN z1 rfl a7,ar.cN z2 rfl a7,Cq ec cf,Cq ec c9,ci.cN z1 rfl a7,ci.cN z2 rfl a7,Cq f0 cf,Cq f0 c9⟩
  have stop:vs.bN[j]?=none\/us.bN[j]?=none->l.dr (λf W=>jD.aV [f,W]) hl hm=[]->
    J Z.U x (dl (.ao bS)) (λa bk=>d.o.aU.S<=bk.o.aU.S->OR x y aI m5 C bS a bk) C d:=λcI vK=>
   arO ab aw z1 ce z2 aW bz ar.bL ci.bL cI λg j I=>j.1.aA λx2 k1=>k1.aA λy2 k1=>(D.VV nZ I aF aH.2.2 pl j.2.2 j.2.1 k1).aA (M vK g d.aY)
  refine aS.cr j (λb N=>stop (.inl N) ((a2 (λp=>l.dr _ p _) b).L l.zipWith_nil_left)) λf w1 fc N r1=>d0.cr j (λb b2=>stop (.inr b2) ((a2 (l.dr _ _) b).L l.zipWith_nil_right)) λW w2 fd b2 r2=>?_;clear stop M aS d0;refine wpAny_pyNext_zip_item aw z1 ce z2 aW bz ar.bL ci.bL N b2 λg cE cg lK o9 qP afp Er I=>?_;clear ar ci N b2 aw;refine TU (aJ:=λy=>J Z.U x fW _ _ _) fX λY Y Y=>wpAny_letOwnedTupleGo_zip (d:=aZ) cE λa5 hz2 bh=>?_;exact (D.VV nZ fY aF aH.2.2 pl (λn a a3 bo cj fb b=>bh.F n a a3 (Er n a a3 bo cj fb b)) hz2 (bh.F _ _ (mq B 3 4 rfl) cg)).aA λx1 a4=>
   aN _ _ _ a5 _ (fc▸fd▸rfl) x1 a4 (.aV fZ (vs:=[w1,w2]) ⟨_,bh.F _ _ (A.ft (ae.cM z1)) qP,rfl,_,rfl⟩ (.ch (r1.mv nZ x1.mv) (.ch (r2.mv nZ x1.mv) .nil)))
    (.bP aC ak aF (lK.F bh.F (mq B 0 4 rfl)) (o9.F bh.F (mq B 1 4 rfl)) (bh.F _ _ f1 (Er _ _ f1 (mq B 2 3 rfl) (mq B 2 0 rfl) (mq B 2 1 rfl) ce)) cf c9 e3 aef)
theorem KE.bv bl ds{xs:l (l (a1⊕ax)×P×aj)}(T:KE e h V xs):∀eJ (f:jD),f2[j]?=k f->∃W,xs[j]?=k W/\jG e h f W.2.2:=by
 induction T with
 |nil=>exact λj f b=>nomatch b
 |ch _ _ c _ ih=>exact λj f=>j.casesOn (λb=>⟨_,rfl,bH.k.inj b▸c⟩) λj b=>ih j f b
theorem lg.tT bl{ag:P×bH P} ds(z:lg e h eE ag) ed:∃xs,h.eW (tupleKind (KZ Z.d7 Z.O)) ag.1 xs/\KE e h V xs/\V.br<=lim:=by
 cases z with
 |vH dZ ar _ _=>
  cases V with
  |nil=>exact c_ rfl dZ
  |ch d1 V=>obtain ⟨d,b⟩:=ar d1 l.bB;obtain ⟨i,c⟩:=d1;clear dZ ar a_2;cases (b:i= .str d);exact nomatch T
 |uJ ar aS bW=>exact ⟨_,ar,aS,bW⟩
theorem oU.cq{dV:Type}[DecidableEq dV]{d7:Program}{O:World}{j:HeapKind d7 O dV} bl bF ee cX{xs}(r:oU h i bn ai)(n:h.eW j i xs):bn.bO=xs.bs (entryOfKey j):=by obtain ⟨a,es',ahX,K,ay,hd1,cJ,_,_⟩:=n;obtain ⟨o',ho',_,hd'⟩:=r;cases K.symm.L ho';cases hd1.symm.L hd';exact cJ
theorem az.valAt bt bF bl ds ee cX cu hB(K:t[q]?=k eE)(af:oU h i bn ai) ed eJ eK
  (u:(V.bs b5).aM j=[]->bn[j]?=none->aJ)(v:∀f W,(V.bs b5).aM j=f::(V.bs b5).aM eI->bn[j]?=k W->jG e h f W.bv->aJ):aJ:=by
 obtain ⟨ag,aT,ro⟩:=D.ro q _ K;cases a_.symm.L aT;obtain ⟨xs,ar,aS,_⟩:=ro.tT T;have cJ:=af.cq ar;cases N:f2[j]? with
 |none=>exact u hy (bc.db.aE (A.cL (A.fn ((a2 l.br cJ).L ((l.fo _).L (aS.br.symm.L (l.fo _).symm)))) hz))
 |k f=>exact (aS.bv j f N).aA λW b=>v f _ hA (bc.getElem?_toList.symm.L ((a2 (·[j]?) cJ).L (l.getElem?_map.L (a2 _ b.1)))) b.2
theorem amC bF bt cb cX ds ee eT(ak:oU d.o i bn ai)(aF:d.o.cC s i j bn.S ai) ed hR(bz:a0<=s):wC x y aI m5 C d t s true false bQ e hp hq:=
 λab D aH Y M aN=>D.valAt aC aH ak T j
  (λb N=>anS ab aF ak N λg R I=>M b g d.aY I λc a e' ap=>R c a c1 e')
  λf W b N rx=>anT aF ak N λg am R I=>
   ET (d:=aZ) am a7 (aN f _ _ g d.aY b I dR λG=>⟨G _ _ rx,.bv aC (ak.at λa b=>R.F _ _ (Cq ec aW) b) am T aW bz⟩)
theorem l6.nx f3:IG x y aI m5 C d t s w tt X e aX p:=by
 generalize ab:d.o=h at E;induction E with
 |bM x0 x1 x2 x3=>exact (amz x0 dt x2 x3).nx
 |aV x0 x1 x2 x3=>exact (amB f4 dt x2 x3).nx
 |xY x0 x1 x2=>exact (amA f4 x1 x2).nx
 |xh x0 x1 x2 x3 x4 x5 jW j5=>exact (amy x0 dt f5 x3 x4 x5 jW j5).nx
 |bP x0 x1 x2 x3 x4 x5 jW j5 kB kO=>exact amD x0 x1 x2 (ab▸x3) (ab▸x4) (ab▸x5) jW j5 kB kO
 |bv x0 x1 x2 x3 x4 x5=>exact (amC x0 dt f5 x3 x4 x5).nx
theorem l6.next bw cz f3(aH:aX t)(qm:tt=true->uS y=true)
  (M:p=[]->∀g tk,mY X e d.o e g->az e t g->aI bE)
  (aN:∀f z O g tk,p=f::z->mY X e d.o e g->az e t g->jG e g f O->l6 s w tt X e g aX z->m5 O bE):
  J Z.U x eS (λa bk=>match a with|none=>aI bk|k v=>J Z.U x eB hE C bk) C d:=
 Aw (E.nx ab D aH qm E.tU (λv bq=>(E.d6 v bq).2.1) M aN)
end
end
end
mutual
example _ h s b e a some X x c ρ List n k σ A ζ T z jF m u v r f h' g i heap l o q e1 D M Nat t env E acc h2 hb cenv size C vs Q h1 jD hr σ' R ha _ _ _ _ _ _ _ _ _ _ _ wpAny ws ac Bool elt objs Shared V hv ρ' I g1 pos σ1 ev ifs is Expr wpAny_bind «at» Value W gens Int Addr Heap U c1 e2 int inj length rest y[by decide]hg it w σ2{n:jE}es hm hs push G g2 hl s₁ trans gd hc hd[{b with B:=U,bg:=t1}]it' Builtin Option Range ns_ Ext bnd hV ho hz p ref run s₃ c2 hn toks PySem d hD mpr small Around Env Except ft_ hk if_neg map mem_singleton wpAny_mono[bR×kN]Tame get? «by» h0 h₃ s₂ Comprehension and_eq_true_iff data e3 ep hi hne rangeSize toNat type{j:jV}[.ListComp ae aw sc am][[P.cL,G]]ifs' P Str bs elim if_pos keep raw wpAny_pure{K:bn}[⟨?_⟩](z:aS j n b.B){h:bR}BodyOk Pos a1 c3 cls congrArg ds ea eval fields fr he hf hgd hp hw hx h₀ inr iter j le_trans lst obj pure range s₄{ba am:b3}{args:k ar}(G:q6 q)[[P.cL]](i:n_ l o g P G mw W s j a M ab)True Z codeAny e4 error guard hU head hq hy inl isList items le_add_right locals one_le out turn zip{o:bm}{b:ag}[j++[(a.af.Q+4,f (a.af.Q+3))]][.Call (.Name h ba) args [] am][{b6:= .bL "dict_values",bE:= .ca #[.bb e]}]{Y:Type}[{b with B:=y,bg:=tk}](g:k bv)[k V][.cE _][.bb ak]{β:Type}[Gl q g ae J ap aG s][.d8 C]Calls N Scope SeqAt a2 a3 a4 absurd ad apos bn c4 compStart compTests cons drop fn hlim hpos h₄ h₅ «do» ofInt pyIter tail toArray{m:It->H β}{w:bo V β×jE}{av:k ay}{s:jL}{T L:au->ag->Prop}[⟨_,az.e8 _ rfl,rfl,rfl⟩]{A:ax}[-1][{b6:= .bL "range",bE:= .ca #[.aD e J,.aD c u,.aD i v]}]{C:k V}{c:Bn}[d2▸c][m+1]{ap:k ar}{m:I}(aJ:aw[m]?=f ⟨J,ck,ap,0⟩)(Z:ux l q g args)[aA++vV J]{z:jE->Prop}[(.ok e,an)](kL:GI g aA s)F Post Unit back body call compTurn d1 enumerate f3 foldedSetIterable g3 gl h4 hh ht h₁ h₆ last length_append list mem_cons more rangeFitsLong rawInt wpAny_standAt[rO S][⟨(qE e c i).bs .aD,λp=>cx⟩][JN S][a.af.Q+3]{d:ar}[x1.aW x2][zB al (I.le_refl _)](e c:ax)[(cl:ax)][λS ab j9 an U t1 x1 al j6 F=>?_][I.cK _ _][λp=>rfl][.cH rfl](ap:k ar){ae J ck:ar}{aw:k bC}{sc:c6}{am:b3}{w:bo V Y×jE}{aK M:au}[.eZ bN m aK M K][dg ap K]{Y:Result->ag->Prop}[.ok .next](l:I)(q:Tb)[tf=true->uS J=true][∀h∈vV J,h∉aA][⟨t',a1,bP,0⟩](s:jL){x:V->H cY}{h:V}(a8:∀v∈ah,v∉bO/\W.af.Q<=v)(bI:P.cL≠G)(cD:∀h∈vV J,h∉aA)[(.ok e,X)][.bb G]{S:k V}[.d8 w][by omega]ForInStep IsList IsListIter IsPair a5 add_left_cancel assign backTo compLoop d2 d3 decide_eq_true dk e0 ex fdiv_one get?_push_of_some get?_push_size h3 h5 hI hQ hR hT i1 i2 isTrue is_async le_succ_of_le lt_of_le_of_lt lt_succ_self machine map_map methodCallPos not_lt not_mem_nil noteFrame of_decide_eq_true of_pure onRaise or_eq_true_iff rangeSize_one range_items starEach wpAny_holding wpAny_of_eq wpAny_pyIter_enum wpAny_pyIter_zip[F.symm.aW d]{v:V}[⟨C,λp=>cx⟩][.d8 e][Gs v][.dict aO][a.af.Q+4][a.af.Q+2][a.af.Q+1]{t l:I}{C w:k V}[yf S]{a:az}(z:aS j n a)(a:e<=c)(a:kI l q g d)[λv aL j9 an U t1 x1 al rv F=>?_][al.aR _][I.le_refl _][cM x1.Q][⟨_,_⟩](a:bl A=true)[- -1][(- -1:ax)][Ah a][Ag a](O:oj q g h=f c){e c:ax}(Z:bl e=true)(O:bl c=true)(cb:FR av g K s j b.B){e c i:ax}(aY:i=1\/i= -1)[{b with B:=b.B.aR dB}][dT (BB c) ab][aT.aR _][zB aT fU][.Name h ba][b_ cT K][by simp][{b with B:=y,bg:=t1}][I.fi x1.Q][.Call (.Attribute D vF dc) [] [] am][ec ?_][⟨_,_,rfl,o',ho',aY,aZ⟩][{b6:= .bL "dict_valueiterator",bE:= .ca #[.bb e,.aD 0 0,.aD b8.Q 0,.aD bG 0]}]{ak:ay}{E tt:ad}{ah:k ay}{aX:jE->Prop}{T:au->ag->Prop}(o:bm)(ae:ar)(m:I)(K:bn)(b:ag)[⟨J,ck,ap,0⟩][pyNext aK][letOwnedTupleGo J aK v][eX J K v](t:kR l o j b.B)(a:oj q g h=f c)(jK:nF w j b L)[bX (And.intro rfl a)][f v](J:bw av j a)(h:mY ah j a aj y)(ci:az)[E=true->∀c D,ci.bx c=f D->a.bx c=f D][b_ d K][ab4 E b.B][λv aL aj X y tk h g' rv d=>ba v aL aj X y tk h g' ⟨rv,λr=>by cases r⟩ d][eF::aG][ahS q g ae]{α:Type}{w:bo V α×jE}[h::C][(.ok J,X)]{L:au->ag->Prop}[.dr _ cZ](on:vv g (vV J) s C2)[dq h](d3:uw J)(RE:ur l q g lX ap)(O:b2 l q g ae aw sc am m dK lX aG)(cF:E=true->lX=true){bQ:Prop}[{b with B:=bz,bg:=t0}][[.co t,.co l]][cF r][M++S][λr=>htf (qm r)](ok:r4 l q g ae aA lX tf J ap aG)[⟨e,c,i,bi⟩]bi c0 cl cw id:True:=x
mutual
section
open bh.c4 bh.c7
mutual
section
variable {l:I}{q:Tb}{g:k bv}
theorem afC b1 dD gA:lk g h=f .d0/\lk q.aS h=f (.dd c):=by
 unfold oj at a;rcases U:lk g h with _|E
 ·rw[U] at a;exact a5 a
 ·rw[U] at a;cases E with
  |d0=>
   refine ⟨rfl,?_⟩;rcases N:lk q.aS h with _|v
   ·rw[N] at a;exact a5 a
   ·rw[N] at a;cases v with
    |dd i=>exact b7 (λc=>f (V.dd c)) (a3.f.aE a)
    |_=>exact a5 a
  |_=>exact a5 a
theorem PV cQ bY dv dw bM aN cR dx b1 dD cs ct cu
  f2(bf:∀d∈args,Pl d) f6 b0
  (a:aa R.H o (spliced (eY am (fx args K))) (λab aV=>aa R.H o f_ T L aV) L b):
  aa R.H o gd T L b:=by
 rw[show N8 gc args am from λp=>rfl];obtain ⟨ch,ai⟩:=afC O;refine as (J6 G cb z ch ai λaL rv=>?_);cases rv with
 |dd _ cg=>exact cg▸Ey (bQ:=λp=>cx) bf (λa p=>⟨.fl,.cj ep,Looks.fs (by clear O ai cg;cases c<;>rfl)⟩) (bu a (λab aV r=>⟨⟨⟩,r⟩) λp p r=>r)
theorem BF cV cQ bY dv dw bM aN cR{m:k V->H Y} ev dx b1 dD cs ct cu
  f2 dJ gz f6 b0(ao:lP q g args s m n=f w)
  (a:∀S ab aj X y tk,a6 j b.B aj y->aS aj X y->jR aj y S ab->m S X=f w->aa R.H o f_ T L cW) gB:
  aa R.H o gd T L b:=PV G O Z.pl cb z (Z.bc t cb z ao a jK)
structure qN(l:I)(q:Tb)(g:k bv)(lX tf:ad)(aK:ar):Prop where
 bc:∀{Y:Type} {o:bm} {K:bn} {av:k ay} {s:jL} {j:jV} {n:jE} {b:ag} {m:It->H Y} {w:bo V Y×jE} {T L:au->ag->Prop},
   kR l o j b.B->FR av g K s j b.B->aS j n b.B->vP (uT q g aK s) (kg q g aK s) m n=f w->
   (∀A ak E tt ah aj X y tk,a6 j b.B aj y->aS aj X y->l6 ak E tt ah aj y A.cC A.cJ->A.cC X->(∀v∈ah,b.B.af.Q<=v)->(E=true->lX=true)->(tt=true->tf=true)->m A X=f w->T c0 cW)->
   nF w j b L->aa R.H o (b_ aK K) (λh aV=>aa R.H o gU T L aV) L b
theorem SM c1 aN eO{x:I->I->k V->k V->β}{c:β} gZ(d:KU n S x=f c)
  (m:∀t l C w,S=g1->n[t]?=f c3->n[l]?=f eP->x t l C w=c->bQ):bQ:=by
 rcases S with _|⟨h,_|⟨aH,_|_⟩⟩
 ·exact a5 d
 ·exact a5 d
 ·exact jZ d λt aP d=>jZ d λl bf d=>jZ d λC aU d=>jZ d λw W d=>m t l C w (by rw[qj aP,qj bf]) (qz aU) (qz W) (a3.f.aE d)
 ·exact a5 d
theorem aki c1 fD dt aN du(d:a7 (m9 v) m n=f w):
  (∃C,v= .tup C/\m fE n=f w)\/∃l C,v= .co l/\n[l]?=f c3/\m ⟨C,λn=>n[l]?=f c3⟩ n=f w:=
 nR d λA a d=>by
  rcases E:tC v with _|C
  ·rw[E] at a;exact .cj (jZ a λl bf a=>jZ a λC aU a=>⟨l,C,qj bf,qz aU,by rw[a3.f.aE a];exact d⟩)
  ·rw[E] at a;exact .cH ⟨C,By E,by rw[a3.f.aE a];exact d⟩
theorem anI c1 eO dt aN du(d:a7 ed m n=f w):
  (∃c,S=[.aD c]/\bl c=true/\m ⟨(qE 0 c 1).bs .aD,λp=>cx⟩ n=f w)\/
  ∃e c i,S=[.aD e,.aD c,.aD i]/\(bl e=true/\bl c=true)/\(i=1\/i= -1)/\m ee n=f w:=
 nR d λA a aC=>by
  clear d;rcases S with _|⟨e,_|⟨c,_|⟨i,_|_⟩⟩⟩
  ·exact a5 a
  ·exact .cH (jZ a λh ch a=>lM a λaQ a=>⟨h,b7 (λv=>[v]) (qO ch),aQ,by rw[a3.f.aE a];exact aC⟩)
  ·exact a5 a
  ·exact .cj (jZ a λh ch a=>jZ a λaH cG a=>jZ a λr a_ a=>lM a λaQ a=>⟨h,aH,r,by rw[qO ch,qO cG,qO a_],ad.bD.mp (ad.bD.mp aQ).1,
    (ad.fu.mp (ad.bD.mp aQ).2).imp fr fr,by rw[a3.f.aE a];exact aC⟩)
  ·exact a5 a
theorem ahW c1 eO dt aN du(d:a7 ef m n=f w):
  ∃t e,S=[.co t]/\n[t]?=f fF/\m ⟨uL 0 e,λτ=>τ[t]?=f fF⟩ n=f w:=
 nR d λA a aC=>by
  clear d;rcases S with _|⟨e,_|_⟩
  ·exact a5 a
  ·exact jZ a λt aP a=>jZ a λC aU a=>⟨t,C,by rw[qj aP],qz aU,by rw[a3.f.aE a];exact aC⟩
  ·exact a5 a
theorem aqR c1 fD dt aN du(d:a7 fG m n=f w):
  ∃l aO,v= .co l/\n[l]?=f fH/\tT aO=true/\m ⟨aO.bs (·.2),λτ=>τ[l]?=f fH⟩ n=f w:=
 nR d λA a d=>jZ a λl bf a=>jZ a λaO aQ a=>lM a λa_ a=>⟨l,aO,qj bf,EF aQ,a_,by rw[a3.f.aE a];exact d⟩
structure O4(j:jV)(a y:az)(t l:I)(e c:ay):Prop where
 pa:j[t]?=f (e,none)
 pb:j[l]?=f (c,none)
 r:IsZip y fI fJ eg .none
 J:eU y fJ (.bb a.af.Q) (.bb fK)
 D:eU y eg .none .none
 fe:y.eT a.af.Q e 0
 ff:y.eT fK c 0
 sz:y.af.Q=a.af.Q+5
 bV:∀i D,a.bx i=f D->y.bx i=f D
theorem VT cQ bM aN cR{ab:k au} fL fM dx b0(j6:jR j b.B g1 ab)(U:n[t]?=f c3)(N:n[l]?=f eP)
  (E:∀e c xs ys y,O4 j b.B y t l e c->b.B.eS e xs.ds->b.B.eS c ys.ds->jR j b.B C xs->jR j b.B w ys->T (.bb (b.B.af.Q+4)) {b with B:=y}):aa R.H o (dT (.bL "zip") ab) T L b:=by
 obtain ⟨_,_,rfl,r1,r2⟩:=j6.two;obtain ⟨e,xs,rfl,hp1,aB,be,_⟩:=z.cn r1 U;clear j6;obtain ⟨c,ys,rfl,hp2,dV,e0,_⟩:=z.cn r2 N;exact call_zip_2 aB.cI dV.cI λy z1 z2 rY Ay arJ arK arL=>E e c xs ys y ⟨hp1,hp2,z1,z2,rY,Ay,arJ,arK,arL⟩ aB.cI dV.cI be e0
theorem KC cV b1 dD cs ct dw gA:uT (Y:=Y) q g cT s=match (generalizing:=false) c with
  | .cq=>f λm=>lP q g args s λS=>a7 ed m
  | .cP=>f λm=>lP q g args s λS=>a7 fN m
  | .dW=>f λm=>lP q g args s λS=>a7 ef m
  |_=>none:=by
 show (match oj q g h with
  |f .cq=>f λm=>lP q g args s λS=>a7 ed m
  |f .cP=>f λm=>lP q g args s λS=>a7 fN m
  |f .dW=>f λm=>lP q g args s λS=>a7 ef m
  |_=>none)=_
 rw[a];clear a;cases c<;>rfl
theorem zB bM aN fO fP{i:ay}(aY:a.af.Q<=i):i∉own j:=λr=>da (z.sG _ r) (I.fo.bk aY)
theorem cM{e c:I} fQ:∀v∈[c],e<=v:=λv ai=>by rw[k.bt.mp ai];exact a
theorem Vf{e c i:I} fQ(y:e<=i):∀v∈[c,i],e<=v:=λv ai=>by
 rcases k.d9.mp ai with rfl|ai
 ·exact a
 ·exact cM y v ai
theorem acJ eh fR(bz:∀cV s,uT (Y:=Y) q g d s=none):qN l q g false false d:=by
 refine bZ;intro Y o K av s j n b m w T L t x z ao ba jK;rw[bz] at ao;refine a.bc t x z ao fS jK;rcases aki F with ⟨C,rfl,F⟩|⟨A,C,rfl,a9,F⟩
 ·obtain ⟨db,S,rfl,e,c,i⟩:=rv.sF;refine wpAny_pyIter_tuple (b:=a0) c ?_;have x2:=a6.aR j9 U {b6:= .bL "tuple_iterator",bE:= .ca #[.bb db,.aD 0 0]};exact ba fE U.af.Q false false _ j9 an _ t1 ei fT (.tup (m:=0) (rv.ext x2) dy ej al.bS) trivial fV bp bp F
 ·obtain ⟨db,S,rfl,cf,e,c,i⟩:=al.cn rv a9;refine wpAny_pyIter_list (b:=a0) e.cI ?_;have x2:=a6.aR j9 U {b6:= .bL "list_iterator",bE:= .ca #[.bb db,.aD 0 0]};exact ba fW U.af.Q false false _ j9 an _ t1 ei fT (.cn (m:=0) cf dy ej al.bS) a9 fV bp bp F
theorem as7 dz fX: -1000000000<=A/\A<=1000000000:=by simpa [bl] using a
theorem LL ek:a2.a4.bJ e c dA=if c<e then e -c else 0:=by
 unfold a2.a4.bJ;rw[br aI];have:(e -c -1)/fY=e -c -1:=by rw[show fZ=1 by decide,ax.ediv_one]
 rw[this];by_cases a:c<e
 ·rw[bU a,bU a];omega
 ·rw[br a,br a]
theorem Ra dz(a: -1000000000<=A)(y:A<=2000000000):a2.a4.ea A=true:=ad.bD.bk ⟨e2 (ax.cm aI a),e2 (ax.fj y aI)⟩
theorem JV dz fX:a2.a4.ea A=true:=Ra f0 (ax.cm f1 aI)
theorem ao0 f3 f4 f5:a2.a4.bl e c dA=true:=by
 refine ad.bD.bk ⟨ad.bD.bk ⟨ad.bD.bk ⟨ad.bD.bk ⟨JV Z,JV O⟩,aI⟩,?_⟩,ad.fu.bk (.cj ?_)⟩
 ·rw[LL];by_cases a:c<e
  ·rw[bU a];exact Ra (ax.cm aI (ax.sub_nonneg_of_le (ax.le_of_lt a))) (ax.sub_le_sub (Ag Z) (Ah O))
  ·rw[br a];decide
 ·rw[br aI];exact ((ax.add_zero c).symm▸JV O:a2.a4.ea (c+0)=true)
theorem UQ f3 f4 f5:a2.a4.bl e c 1=true:=
 have x:∀dz,bl A=true-> -(2^62)<=A/\A<2^62:=λa=>⟨ax.cm aI f0,ax.fj f1 aI⟩
 small_one (x Z).1 (x Z).2 (x O).1 (x O).2
theorem anL ek:(qE e c 1).bs V.aD=(k.cq (a2.a4.bJ e c 1).bK).bs λcl:I=> .aD (e+1*el):=by
 unfold qE;rw[bU aI,fv,k.fm];have:((c -e+1 -1).fdiv 1).bK=(if e<c then c -e else 0).bK:=by
  rw[ax.e6]
  split<;>omega
 rw[this];rfl
theorem anK ek:(qE e c dA).bs V.aD=(k.cq (a2.a4.bJ e c dA).bK).bs λcl:I=> .aD (e+ -1*el):=by
 unfold qE;rw[br aI,LL,k.fm];have:((e -c - -1 -1).fdiv fY).bK=(if c<e then e -c else 0).bK:=by
  rw[show fZ=1 by decide,ax.e6]
  split<;>omega
 rw[this];rfl
theorem fw f7 f8:(qE e c i).bs V.aD=(k.cq (a2.a4.bJ e c i).bK).bs (λcl:I=> .aD (e+i*el))/\0<=a2.a4.bJ e c i:=by
 rcases aY with rfl|rfl
 ·exact ⟨anL e c,by rw[fv];split<;>omega⟩
 ·exact ⟨anK e c,by rw[LL];split<;>omega⟩
theorem Uo cV cQ{j kM:jV} aN cR{ci:az}{m:It->H Y} ev dx f7{J u v:Tok} b0(h:a6 kM ci j b.B) f8(aQ:a2.a4.bl e c i=true)(d:m ee n=f w)
  (pp:∀A ak E tt ah aj X y tk,a6 kM ci aj y->aS aj X y->l6 ak E tt ah aj y A.cC A.cJ->A.cC X->(∀v∈ah,ci.af.Q<=v)->(E=true->false=true)->(tt=true->false=true)->m A X=f w->T c0 cW):
  aa R.H o (dq (.bb b.B.af.Q)) T L f9:=by
 have x2:=a6.aR j b.B dB;have aT:=z.aR dB;refine wpAny_pyIter_range (b:=f9) (IsRange.new ..) aQ ?_;generalize asD:b.B.aR dB=N at x2 aT⊢;obtain ⟨cJ,dl⟩:=fw (e:=e) (c:=c) aY;have aK:IsRangeIter (N.aR {b6:= .bL "range_iterator",bE:= .ca #[eb e,eb (a2.a4.bJ e c i),eb i]}) N.af.Q e (((a2.a4.bJ e c i).bK:I):ax) i:=by rw[ax.toNat_of_nonneg dl];exact az.e8 _ rfl
 refine pp ee N.af.Q false false _ j n _ b.bg ((h.aW x2).aW (a6.aR j N _)) ga ?_ trivial (cM (h.aW x2).Q) bp bp d;dsimp only;rw[cJ];exact .xY aK gb aT.bS
theorem acK b1 cs ct cu(O:oj q g h=f .cq) dJ:qN l q g false false cT:=by
 refine bZ;intro Y o K av s j n b m w T L t x z ao pp jK;rw[KC O] at ao;refine BF G O Z t x z ao em jK;rcases anI F with ⟨c,rfl,aQ,F⟩|⟨e,c,i,rfl,⟨Z,O⟩,aY,F⟩
 ·obtain ⟨u,rfl,r1⟩:=j6.one;clear j6;obtain ⟨J,rfl⟩:=r1.dp;exact call_range_1 (b:=a0) (Uo (b:={b with B:=U,bg:=t1+1+1}) al x1 ep (UQ aI aQ) F pp)
 ·obtain ⟨_,_,_,rfl,r1,r2,r3⟩:=j6.three;obtain ⟨J,rfl⟩:=r1.dp;obtain ⟨u,rfl⟩:=r2.dp;obtain ⟨v,rfl⟩:=r3.dp;refine call_range_3 (b:=a0) eQ (Uo (b:=a0) al x1 aY ?_ F pp) (.cH (PyProof.noPylong_small eQ));clear F r3 j6;rcases aY with rfl|rfl
  ·exact UQ Z O
  ·exact ao0 Z O
theorem SP aN{u:I}{D h:ko}(d:n[u]?=f D):(n++[h])[u]?=f D:=(k.getElem?_append_left (k.getElem?_eq_some_iff.mp d).1).aW d
theorem arV bM aN{a y:az} fL{e c:ay} fM fP(r:O4 j a y t l e c):a6 j a cS y/\aS cS (n++[.oB]) y/\
  l6 fI false true [a.af.Q,a.af.Q+1] cS y (λτ:jE=>τ[t]?=f c3/\τ[l]?=f eP/\τ[n.aF]?=f .oB) (k.zipWith (λh aH=> .tup [h,aH]) C w):=by
 have h:a6 j a cS y:=⟨⟨_,rfl,λe Z=>(k.d9.mp Z).bT (λd=>d▸I.cK _ _) λZ=>k.bt.mp Z▸I.cK _ _⟩,r.sz▸I.cK _ _,λc D d p=> .same (r.bV c D d)⟩;have z7:∀m,m≠4->m≠3->a.af.Q+m∉own cS:=λm k4 k3 aP=>by
  rw[xS] at aP;rcases k.mem_append.mp aP with aP|aP
  ·exact zB z en aP
  ·rcases k.d9.mp aP with aP|aP
   ·exact k4 (I.eW aP)
   ·exact k3 (I.eW (k.bt.mp aP))
 exact ⟨h,z.snoc h (λc D d=>r.bV c D (z.base c D d)) (λe Z=>by obtain ⟨D,d⟩:=z.alive Z;rw[d,r.bV e D d]) ge ge (.oB r.r r.D),
  l6.cP (cl:=n.aF) (m:=0) (h.pR r.pa) (h.pR r.pb) (by rw[<-z.len];simp) r.fe r.ff r.J (z7 0 aI aI) (z7 1 aI aI) (z7 2 aI aI) z.bS⟩
theorem acM b1 cs ct cu(O:oj q g h=f .cP) dJ:qN l q g false true cT:=by refine bZ;intro Y o K av s j n b m w T L t x z ao pp jK;rw[KC O] at ao;refine BF G O Z t x z ao em jK;unfold yf at F;rw[w5] at F;refine nR F λaK a F=>SM a λA cl l1 l2 ai pe ho2 bH=>?_;clear a;subst ai bH;refine VT (b:=a0) al j6 pe ho2 λe c xs ys y r p p p p=>?_;obtain ⟨x2,aT,aq⟩:=arV (C:=l1) (w:=l2) al r;exact fB (b:=gf) r.r (pp fW _ false true _ _ _ y t1 ei aT aq ⟨SP pe,SP ho2,by simp⟩ (Vf x1.Q gg) bp eo F)
theorem acI b1 cs ct cu(O:oj q g h=f .dW) dJ:qN l q g false true cT:=by refine bZ;intro Y o K av s j n b m w T L t x z ao pp jK;rw[KC O] at ao;refine BF G O Z t x z ao em jK;obtain ⟨A,l1,rfl,pe,F⟩:=ahW F;obtain ⟨_,rfl,r1⟩:=j6.one;clear j6;obtain ⟨b4,atf,rfl,hp1,⟨n1,e4⟩,be,_⟩:=al.cn r1 pe;refine call_enumerate_1 (b:=a0) e4 λy z1 z2 rY Ay=>?_;refine fA (b:=gf) z1 ?_;replace rY:y.af.Q=U.af.Q+2:=rY;replace Ay:∀c D,U.bx c=f D->y.bx c=f D:=Ay;have a_:U.af.Q<=y.af.Q:=rY▸I.cK _ _;have aq:=l6.xh (ak:=U.af.Q+1) (aK:=U.af.Q) (m:=0) (C:=l1) hp1 z1 z2 (zB al (I.le_succ _)) ej (I.fi al.bS) al.bS (I.succ_ne_self _);exact pp ⟨uL 0 l1,_⟩ _ false true _ _ _ y t1 (x1.aW (.keeps a_ Ay)) (al.keeps a_ Ay) aq pe (Vf gg x1.Q) bp eo F
theorem acL{D:ar}{dc am:b3} cu(a9:kI l q g D)(aQ:yG D)(aU:(dc.endLine==am.line)=true):qN l q g true false gh:=by
 refine bZ;intro Y o K av s j n b m w T L t cb z ao pp jK;rw[show uT (Y:=Y) q g gh s=(match j4 vF vF with
  |true=>f λm=>kg q g D s λv=>a7 fG m
  |false=>none) from rfl,show j4 vF vF=true from n8.bk rfl] at ao
 rw[arm_eval_Call,aQ];refine as (bu (a9.bc t cb z ao fS jK) (λv s1 r=>r) λp p r=>r);refine as gi;have dl:fn true D K dc am=cp am:=by unfold fn;simp [aU]
 unfold methodCall;rw[show methodCallForm (([]:k ar).aF+([]:k Keyword).aF) (eY am (fx [] K)) (backToKw am (keywordEach [] K))=true from rfl];obtain ⟨A,aO,rfl,hob,a_,F⟩:=aqR F;obtain ⟨⟨e,bi⟩,rfl,cf⟩:=rv.ofObj;obtain ⟨ob,RH,ro⟩:=al.co cf;rw[hob] at RH;cases RH;have ns:=K9 G.yX al cf;have bW:∃b8 bG,bi=none/\oU U e b8 bG:=by
  cases ro with
  |vH g8 aB be b5=>obtain ⟨o',es',bG,ho',aY,aZ,_⟩:=be;exact gj
  |uJ aB be b5=>obtain ⟨o',es',bG,ho',aY,aZ,_⟩:=aB;exact gj
 clear ro;clear rv;obtain ⟨b8,bG,rfl,bW⟩:=bW;refine as (fy ?_);unfold calleeOf;rw[bU rfl];have fd:ag.TypeIs a0 (.bb e) "dict":=oU.bL (b:=a0) bW;have hdn:∀c,au.bb e= .bb c->∃D,U.bx c=f D/\D.dict=none:=λc d=>by cases d;obtain ⟨D,a9,aY,_⟩:=bW;exact ⟨D,a9,aY.2.1⟩
 refine getMethod_builtin fd bh.dO.plainAttrs_dict bh.dO.slot_dict_values bh.dO.type_dict_values hdn ?_;refine as (fz dl ?_);refine Ey (aO:=[]) (bQ:=λp=>cx) (λp a=>da a k.fp) (λa p=>⟨.fl,.cj ep,Looks.fs rfl⟩) (spliced_nil ⟨trivial,?_⟩);refine anV (b:=a0) ns bW ?_;have x2:=a6.aR j9 U cU;have aT:=al.aR cU;have LM:oU (U.aR cU) e b8 bG:=bW.at λD d=>az.e7 _ d;refine anU (b:={b with B:=U.aR cU,bg:=t1}) (bi:=e) dy LM ?_;generalize U.aR cU=N at x2 aT LM⊢;have x3:=a6.aR j9 N gk;have anN:oU (N.aR gk) e b8 bG:=LM.at λD d=>az.e7 _ d;have aq:=l6.val (ak:=N.af.Q) (m:=0) (aO:=aO) cf anN dy a_ gb aT.bS;exact pp ⟨aO.bs (·.2),_⟩ _ true false _ _ _ _ t1 ((x1.aW x2).aW x3) ga aq hob (cM (x1.aW x2).Q) eo bp F
end
end
mutual
section
open bh.c4 bh.c7
mutual
section
variable {o:bm}{b:ag}{L:au->ag->Prop}
theorem l6.self gl gm gn bM go dC aN gp b0(A:l6 ak E tt ah j b.B aX C)(aJ:aX n)(a:T c0 b):aa R.H o (dq c0) T L b:=by
 generalize d2:b.B=m at A;induction A with
 |cn _ c=>exact wpAny_pyIter_listiter dE a
 |tup _ c=>exact wpAny_pyIter_tupleiter dE a
 |xY c=>exact wpAny_pyIter_rangeiter dE a
 |xh _ c=>exact fA dE a
 |cP _ _ i=>exact fB (z.VM i aJ.2.2).1 a
 |val _ _ i=>exact wpAny_pyIter_valiter (d2▸i) a
noncomputable def wG gq gr(aw:k bC)(sc:c6)(am:b3) gs(M:au) gt(E':au->ag->Prop)(Qr:ag->Prop) gu:Prop:=
 match aw[m+1]? with
 |f g'=>g'.fh=0/\(∀h,dY g'.ck K h=cp h)/\aa R.H o (b_ g'.ck K) (λh aV=>aa R.H o gU (λa1 bB=>
   cz R.H o (.df bN dF a1 M K) (λw bd=>match w with| .ok _=>Qr bd| .cB d=>cameBackBy R.H o K E' d bd) bB) E' aV) E' b
 |none=>aa R.H o (b_ ae K) (λh aV=>aa R.H o (dT (.builtin "list.append") [M,h]) (λp=>Qr) E' aV) E' b
noncomputable def dg eq gt:Sem ad:=forIn ap true λi w=>if w=true then do let ok<-fg i K (b_ i K);cp (eR.yield ok) else cp (eR.yield w)
theorem agq er dG es et eu dH ew bY{c5 cy:ag->Prop}{T:Fin->ag->Prop} dI(dj:∀b,c5 b->T (.done .next) b)(J1:∀b,cy b->T (.again ex) b)
  (cO:aa R.H o gw (λw aV=>match w with
   |none=>c5 aV
   |f v=>aa R.H o gx (λp s'=>aa R.H o gy (λp bB=>aa R.H o ey (λok bd=>if ok=true then wG o ae aw sc am m M K L cy bd else cy bd) L bB) L s') L aV) L b):
  aa R.H o (dU bN m aK M K) T L b:=by
 unfold dU;dsimp only;rw[aJ];dsimp only;refine as (ec (as (bu cO (λw aV d4=>?_) λp p r=>r)));cases w with
 |none=>exact bX (dj _ d4)
 |f v=>
  refine as (bu d4 (λp s' y=>as (bu y (λp bB h₂=>as (bu h₂ (λok bd bA=>?_) λp p r=>r)) λp p r=>r)) λp p r=>r);cases ok with
  |false=>exact bX (J1 _ bA)
  |true=>
   clear dj cO aJ;unfold wG at bA;cases hg':aw[m+1]? with
   |none=>rw[hg'] at bA;exact as (as (bu bA (λh cr dm=>as (bu dm (λp s₅ dn=>bX (bX (J1 _ dn))) λp p r=>r)) λp p r=>r))
   |f g'=>
    rw[hg'] at bA;obtain ⟨Z,cd,bA⟩:=bA;have O:¬((g'.fh !=0)=true):=by rw[Z];decide
    refine as (bu bA (λh cr dm=>as gi) λp p r=>r);rw[br O];refine as (fz (cd h) ?_);rw[br O];refine as (fy (bu dm (λa1 s₅ dn=>as (wpAny_runOwn (codeAny_mono dn λw s₆ d5=>?_))) λp p r=>r));cases w with
    |ok x=>exact bX (J1 _ d5)
    |cB h=>exact d5
theorem agp er dG es et eu dH ew bY ez dI(ak:I->ag->Prop)
  (cO:∀l b,ak l b->∀E':au->ag->Prop,aa R.H o gw (λw aV=>match w with
   |none=>Y eA aV
   |f v=>aa R.H o gx (λp s'=>aa R.H o gy (λp bB=>aa R.H o ey (λok bd=>
     if ok=true then wG o ae aw sc am m M K E' (λcr=>∃t,t<l/\ak t cr) bd else ∃t,t<l/\ak t bd) E' bB) E' s') E' aV) E' b)
  eB(a:ak l b):cz R.H o ex Y b:=
 codeAny_loop rfl ak (λl b fa=>(wpAny_noted (agq (c5:=Y eA) (cy:=λb=>∃t,t<l/\ak t b) aJ (λp a=>a) (λp a=>⟨rfl,a⟩) (cO l b fa _)):aa R.H o ((dU bN m aK M K).ft (λh=>do fq h K;theTreesLotGoes h)) _ _ b)) l a
theorem Qe er dG es et eu dH ew bY ez dI
  (bH:∀gp {E':au->ag->Prop},T aK b->aa R.H o (dq aK) T E' b)(a:cz R.H o ex Y b):
  cz R.H o (.df bN m aK M K) Y b:=by
 refine codeAny_of_tree ?_;show aa _ _ ((df bN m aK M K).ft (λh=>do fq h K;standAt theWindowsPlace)) _ _ b;refine wpAny_notedAt ?_;unfold df;have d:(clausesOf bN)[m]?=f gv:=aJ;rw[d];show aa _ _ (ask>>=_) _ _ b;refine as (wpAny_askSetting (wpAny_ite ?_))
 split
 ·exact as (bX gC)
 ·refine as (wpAny_rule (as (ec (as (bH gC)))))
end
end
mutual
section
open bh.c4 bh.c7
theorem FR.weak dv{g:k bv} bY{s k7:jL} bM fO(x:FR av g K k7 j a)(aU:s.aF=k7.aF)(bq:∀(A:I) (v:V),s[A]?=f gD->k7[A]?=f gD):FR av g K s j a:=by obtain ⟨t,aP,ai⟩:=x.ns;refine ⟨x.dj,x.d0,x.g7,x.plain,x.glob,x.vR,x.cN,λh A d=>by rw[aU];exact x.lt h A d,x.aE,⟨t,aP,λh A c v F aC bF=>ai h A c v F aC (bq A v bF)⟩,λh A F aC=>?_,x.apart,x.low,x.g_⟩;obtain ⟨i,u,b4,c8,c9,c_,eV⟩:=x.g9 h A F aC;exact ⟨i,u,b4,c8,c9,c_,λv d=>eV v (bq A v d)⟩
mutual
section
variable {av ah:k ay}{j aj pG:jV}{a y h'':az}
theorem bw.zv gE gF(aZ:∀c∈av,c∉ah):bw av aj y:=λc O=>by obtain ⟨r,e,D,d,bi⟩:=J c O;obtain ⟨sl,e'⟩:=(h.kept c D d e (aZ c O)).get;exact ⟨r,h.pP d e,_,e',bi⟩
theorem ng.zv{S:Array au}{G:ay}(ba:ng a G S) gF(a9:G∉own j)(aZ:G∉ah):ng y G S:=by obtain ⟨l,d⟩:=ba;exact ⟨l,(h.kept G _ d a9 aZ).exact (by decide:(3:I)≠0)⟩
theorem bw.sub gE(a8:∀e∈ah,e∈av):bw ah j a:=λc O=>J c (a8 c O)
end
mutual
section
variable (l:I)(q:Tb)(g:k bv)(E:ad)
noncomputable def ab5 gG:jV->az->V->au->Prop:=λj a v aL=>jG j a v aL/\gH
noncomputable def ab4 gG:jV->az->ad->ad->Prop:=λp a e c=>e=c/\gH
structure pH(d:ar):Prop where
 bc:∀{Y:Type} {o:bm} {K:bn} {av:k ay} {s:jL} {j:jV} {n:jE} {b:ag} {m:V->H Y} {w:bo V Y×jE} {T L:au->ag->Prop},
   kR l o j b.B->FR av g K s j b.B->aS j n b.B->kg q g d s m n=f w->dP w m (ab5 E b.B) j b T->nF w j b L->aa R.H o gI T L b
 pl:Pl d
structure IP(d:ar):Prop where
 bc:∀{Y:Type} {o:bm} {K:bn} {av:k ay} {s:jL} {j:jV} {n:jE} {b:ag} {m:ad->H Y} {w:bo V Y×jE} {T:ad->ag->Prop} {L:au->ag->Prop},
   kR l o j b.B->FR av g K s j b.B->aS j n b.B->kg q g d s (λv=>jY v m) n=f w->dP w m gJ j b T->nF w j b L->aa R.H o (fg d K gI) T L b
end
mutual
section
variable {l:I}{q:Tb}{g:k bv}
theorem kI.E eh fR:pH l q g false d:=⟨λt x z ao ba jK=>a.bc t x z ao gK jK,a.pl⟩
theorem pI.E eh(a:pI l q g d):IP l q g false d:=⟨λt x z ao ba jK=>a.bc t x z ao gK jK⟩
noncomputable def ur eB eC cX(E:ad) eq:Prop:=ap=[]\/∃i,ap=[i]/\IP l q g E i
inductive r4(l:I)(q:Tb)(g:k bv)(ae:ar):k bR->ad->ad->ar->k ar->k bC->Prop
 |d6 {aA lX tf J ap}:uw J->eD->eE->ur l q g lX ap->pH l q g lX ae->r4 l q g ae aA lX tf J ap []
 |d_ {aA tf J ap LF Am t' a1 bP aG}:uw J->eD->eE->ur l q g false ap->qN l q g LF Am a1->(∀K h,dY a1 K h=cp h)->
   r4 l q g ae dK LF Am t' bP aG->r4 l q g ae aA false tf J ap gL
noncomputable def ahS eC cX gr:jL->H cY:=λj=>kg q g ae j λv=>ret [v]
noncomputable def Gl eC cX(ae J:ar) eq(aG:k bC) eG(h:V):H cY:=
 w4 g J h s λaj=>zj q g ap aj λE=>match E with
  |false=>ret []
  |true=>EN dQ q g gM aG aj
theorem BS gN dL{m:dQ->H α} aN gO(d:a7 (vI z) m n=f w):z n/\m () n=f w:=by
 unfold a7 vI at d;by_cases a:z n
 ·rw[bU a] at d;exact ⟨a,d⟩
 ·rw[br a] at d;cases d
theorem Uk gN{t:H α} aN gO(d:quiet t n=f w) gZ(E:∀e an,t n=f dM->w=dM->bQ):bQ:=by
 unfold quiet at d;rcases a:t n with _|⟨_|e,an⟩
 ·rw[a] at d;exact a5 d
 ·rw[a] at d;exact a5 d
 ·rw[a] at d;exact E e an a (a3.f.aE d).symm
theorem P_ dL eH eI dC aN{w:bo V cY×jE}(d:ki z x gP n=f w):
  z n/\∃e an,x h n=f dM/\((∃J aM,ki z x C an=f (.ok J,aM)/\w=(.ok (e++J),aM))\/∃aH aM,ki z x C an=f (.cB aH,aM)):=by
 unfold ki at d;obtain ⟨aJ,d⟩:=BS d;refine ⟨aJ,?_⟩;rcases BD d with ⟨e,an,F,aC⟩|⟨aH,an,F,_⟩
 ·refine Uk F λa' s' a E=>?_;cases E;refine ⟨e,an,a,?_⟩;rcases BD aC with ⟨J,aM,bF,cA⟩|⟨aH,aM,bF,_⟩
  ·exact .cH ⟨J,aM,bF,(a3.f.aE cA).symm⟩
  ·exact .cj ⟨aH,aM,bF⟩
 ·exact Uk F λp p p E=>nomatch (b7 (·.1) E:bo.cB aH=bo.ok _)
theorem Qa dL eH dC:∀aN {aH:V} {X:jE},ki z x C n≠f (.cB aH,X):=by
 induction C with
 |nil=>intro n aH X d;unfold ki at d;obtain ⟨_,d⟩:=BS d;cases d
 |dh h C ih=>
  intro n aH X d;obtain ⟨_,e,an,_,a|⟨y',aM,a⟩⟩:=P_ d
  ·obtain ⟨J,aM,_,a⟩:=a;cases a
  ·exact ih a
theorem agi dL eH eI{C v:k V}{n X:jE}(d:ki z x gP n=f (.ok v,X)):z n/\∃e an J,x h n=f dM/\ki z x C an=f gQ/\v=e++J:=by obtain ⟨aJ,e,an,U,N⟩:=P_ d;exact ⟨aJ,e,an,N.bT (λa=>a.bT λJ a=>a.bT λaM a=>sp_ (b7 f a.2) λF aC=>⟨J,U,aC▸a.1,bo.ok.aE F⟩) λa=>a.bT λaH a=>a.bT λaM a=>da a Qa⟩
theorem ap1 cQ bY dv dw bM aN cR{E:ad} dG cV{m:ad->H Y} ev{T:ad->ag->Prop} gR(a:ur l q g E ap)
  gz(x:FR av g K s j b.B) b0(ao:zj q g ap s m n=f w)(ba:dP w m gJ j b T) gB:aa R.H o ey T L b:=by
 unfold dg;rcases a with rfl|⟨i,rfl,aY⟩
 ·exact wpAny_tests_nil (ba true true j n b.B b.bg (.refl _ _) z ⟨rfl,λp p p d=>d⟩ ao)
 ·refine wpAny_tests_one (aY.bc (m:=λE=>match E with|true=>zj q g [] s m|false=>m false) t x z ao (λc b' j9 an U t1 x1 al rb F=>?_) jK);have F:m c an=f w:=by clear rb;cases c<;>exact F
  exact ba c b' j9 an U t1 x1 al rb F
end
end
mutual
section
open bh.c4 bh.c7
mutual
section
variable {l:I}{q:Tb}{g:k bv}
noncomputable def GI cX(aA:k bR) eG:Prop:=∀h A c,lk g h=f (.slot A c)->h∉aA->s[A]?=f none
structure n_(l:I)(o:bm)(g:k bv)(P:bn)(G:ay)(mw:jV)(W:az)(s:jL)(j:jV)(a:az)(M:k V)(ab:k au):Prop where
 t:kR l o j a
 x:FR cv g P s j a
 tm:bw bO j a
 bj:ng a G ab.ds
 j6:jR j a M ab
 x0:kK bO mw W j a
mutual
section
variable {o:bm}{P:bn}{G:ay}{mw j lI:jV}{W a N:az}{s C2:jL}{M Pc:k V}{ab C1:k au}{aA:k bR}{J:ar}
theorem n_.cN cw:G∉own j:=(i.tm G gS).2.1
theorem n_.v gn gl gm go dC cw(aq:l6 ak E tt ah j a aX C) eJ(h:mY ah j a j N):n_ l o g P G mw W s j N M ab:=
 have aZ:∀v∈ah,∀D,a.bx v=f D->2<=e3 D.bE:=λv ai D a9=>(aq.places v ai).2.2.bT λo' bi=>a3.f.aE (bi.1.symm.aW a9)▸I.le_of_eq bi.2.symm;have cg:∀c∈[P.cL,G],c∉ah:=λc O ai=>(a8 c ai).1 O
 ⟨i.t.mv h.mv aZ,i.x.mv aq.tU h.mv aZ,i.tm.zv h cg,i.bj.zv h i.cN (cg G gS),i.j6.mv aq.tU h.mv,i.x0.CQ h λv ai=>(a8 v ai).2⟩
theorem n_.bind cw eK(h:kK cv j a j N)(x:FR cv g P C2 j N):n_ l o g P G mw W C2 j N M ab:=
 have tl:bw cv j a:=i.tm.sub λe Z=>k.bt.mp Z▸ .cE _
 ⟨i.t.lV h,x,i.tm.lV h,i.bj.zv h.v i.cN λr=>bI (k.bt.mp r).symm,i.j6.lV tl h,i.x0.aW (h.mono λe Z=>k.bt.mp Z▸ .cE _)⟩
theorem n_.ext cw(h:a6 j a lI N):n_ l o g P G mw W s lI N M ab:=
 ⟨i.t.ext h,i.x.ext h,i.tm.ext h,i.bj.zv (h.aL []).v i.cN k.fp,i.j6.ext h,i.x0.aW (h.aL _)⟩
theorem n_.dS cw(h:kK bO j a lI N)(x:FR cv g P s lI N)(bj:ng N G C1.ds)(j6:jR lI N Pc C1):n_ l o g P G mw W s lI N Pc C1:=
 ⟨i.t.lV h,x,i.tm.lV h,bj,j6,i.x0.aW h⟩
theorem n_.dR(i:n_ l o g P G mw W C2 j a M ab) dN eL gT:n_ l o g P G mw W s j a M ab:=
 ⟨i.t,i.x.weak on.1.symm λA v ai=>by
  rw[on.2 A λr a_ c hz'=>?_]
  ·exact ai
  ·exact sn_ ((a3.f.aE (ai.symm.aW (kL r A c hz' (cD r a_)))):f v=none).symm.symm,i.tm,i.bj,i.j6,i.x0⟩
theorem n_.blank cw dN gT:GI g dK C2:=λaH A c cG RO=>by rw[on.2 A λr a_ b' hz'=>RO (k.mem_append_right _ ((i.x.aE aH r A (by rw[cG];rfl) (by rw[hz'];rfl)).symm▸a_))];exact kL aH A c cG λE=>RO (k.mem_append_left _ E)
end
structure b2(l:I)(q:Tb)(g:k bv)(ae:ar)(aw:k bC)(sc:c6)(am:b3)(m:I)(aA:k bR)(lX:ad)(aG:k bC):Prop where
 bc:∀{o:bm} {P:bn} {G:ay} {s:jL} {j mw:jV} {W:az} {n X:jE} {b:ag} {M e:k V} {ab:k au} {L:au->ag->Prop} {Qr:ag->Prop},
   n_ l o g P G mw W s j b.B M ab->aS j n b.B->P.cL≠G->GI g aA s->EN dQ q g gM aG s n=f eM->M.aF+e.aF<=lim->
   (∀aj y tk ud,n_ l o g P G mw W s aj y (M++e) ud->kK bO j b.B aj y->aS aj X y->(lX=true->sZ bO b.B y)->Qr cW)->
   wG o ae aw sc am m eN P L Qr b
noncomputable def GJ eB gq cX(P:bn)(G:ay)(mw:jV)(W:az) eG(ak:ay)(E tt:ad)(ah:k ay)(aX:jE->Prop)(x:V->H cY)(X:jE)(tot:k V) gu gs(s':ag):Prop:=
 ∃j n a tk C M ab J,s'={b with B:=a,bg:=tk}/\m=C.aF+1/\n_ l o g P G mw W s j a M ab/\aS j n a/\l6 ak E tt ah j a aX C/\ki aX x C n=f gQ/\M++J=tot
mutual
section
variable {ae:ar}{aw:k bC}{sc:c6}{am:b3}{aA:k bR}{lX tf:ad}{J:ar}{ap:k ar}{aG:k bC}{m:I}{o:bm}{P:bn}{G:ay}{s:jL}{j mw:jV}{W:az}{n X:jE}{b:ag}{ak:ay}{E tt:ad}{ah:k ay}{aX:jE->Prop}{C M S:k V}{ab:k au}
theorem aqj{bz:az}{t0:I} eI{aL:au} gR gV eL gW gX
  gY eK eJ dN(dk:S.aF<=lim){e t':k V}{aM:jE}
  (i:n_ l o g P G mw W s j bz M ab)(z:aS j n bz)(aq:l6 ak E tt ah j bz aX C)(rx:jG j bz h aL)(F:Gl q g ae J ap aG s h n=f (.ok e,aM))(aC:ki aX c2 C aM=f (.ok t',X))(zI:M++(e++t')=S):
  aa R.H o (eX J P aL) (λp bB=>aa R.H o (dg ap P) (λok bd=>
   if ok=true then wG o ae aw sc am m eN P L (λcr=>∃t,t<C.aF+1+1/\GJ l o g P G mw W s ak E tt ah aX c2 X S b t cr) bd
   else ∃t,t<C.aF+1+1/\GJ l o g P G mw W s ak E tt ah aX c2 X S b t bd) L bB) L g0:=by
 have tl:bw cv j bz:=i.tm.sub λe Z=>k.bt.mp Z▸ .cE _;refine Ju (b:=g0) i.t.aZ i.x tl z rx d3 F λatj e9 t3 Lm QK x3 dZ dX bF=>?_;have B6:=aq.bV tl x3 (λv ai r=>(a8 v ai).1 (k.bt.mp r▸ .cE _)) (λp=>QK);have b5:=i.bind bI x3 dX;have afB:=i.blank kL Lm;clear aq QK x3 z dX F tl rx;refine ap1 (b:={b with B:=e9,bg:=t3}) RE b5.t b5.x dZ bF (λc b' VW MO d1 t4 x4 mV rb cA=>?_) λp p p p p p W=>nomatch W;obtain ⟨rfl,QZ⟩:=rb;have E8:=B6.bV (av:=[]) (λp r=>nomatch r) (x4.aL []) (λp p r=>nomatch r) (λr c D d p=>QZ g2 c D d);have de:=b5.ext x4;clear B6 QZ x4 dZ;cases c with
 |false=>rw[br ad.false_ne_true];exact so_ cA λb9 aO=>⟨C.aF+1,I.fk _,VW,_,d1,t4,C,M,ab,t',rfl,rfl,de.dR kL cD Lm,mV,E8,aO▸aC,by rw[<-zI,<-b9];rfl⟩
 |true=>rw[bU rfl];have aU:M.aF+e.aF<=lim:=I.cm (by rw[<-zI,k.d7,k.d7];exact I.add_le_add_left en _) dk;refine O.bc (b:={b with B:=d1,bg:=t4}) de mV bI afB cA aU λvf e_ t5 arB BE x5 rC ahR=>?_;exact ⟨C.aF+1,I.fk _,vf,aM,e_,t5,C,M++e,arB,t',rfl,rfl,BE.dR kL cD Lm,rC,E8.bV de.tm x5 (λv ai=>(a8 v ai).1) (λr=>ahR g2),aC,by rw[k.append_assoc];exact zI⟩
theorem P4{ck:ar} ez gV(htf:tf=true->uS J=true) eL
  gW dI gX
  (i:n_ l o g P G mw W s j b.B M ab) b0(aq:l6 ak E tt ah j b.B aX C) gY(qm:tt=true->tf=true) eK
  eJ dN
  (d:ki aX c2 C n=f (.ok S,X))(dk:(M++S).aF<=lim)
  (fc:∀aj y tk ud,n_ l o g P G mw W s aj y g3 ud->aS aj X y->Y eA cW):
  cz R.H o (.eZ bN m c0 eN P) Y b:=by
 refine agp aJ (GJ l o g P G mw W s ak E tt ah aX c2 X g3 b) ?_ (C.aF+1) ⟨j,n,b.B,b.bg,C,M,ab,S,rfl,rfl,i,z,aq,d,rfl⟩;clear i z aq d;rintro m' s' ⟨j9,an,U,t1,l1,asd,arA,b4,rfl,rfl,i,z,aq,d,zI⟩ E';cases l1 with
 |nil=>
  obtain ⟨ce,d⟩:=BS d;refine aq.next (b:=a0) i.t.aZ z ce g4 (λp N t2 x2 aT=>so_ d λb9 aO=>fc j9 N t2 arA ?_ (aO▸aT)) λh w aL N t2 d=>nc_ d
  rw[<-zI,<-b9,k.append_nil];exact i.v aq a8 x2
 |dh h l1=>
  obtain ⟨ce,e,aM,t',F,aC,cc⟩:=agi d;exact aq.next (b:=a0) i.t.aZ z ce g4 (λr=>cn_ r) λx' w aL N t2 uK x2 aT rx E6=>
   aqj d3 cD RE O cF bI a8 kL dk (i.v aq a8 x2) aT ((k.dh.aE uK).2▸E6) ((k.dh.aE uK).1▸rx) F aC (cc▸zI)
theorem r4.aZ g5:uw J/\eD/\eE/\ur l q g lX ap:=by
 induction ok with
 |d6 e c i bi _=>exact g6
 |d_ e c i bi _ _ _=>exact g6
theorem afE(cc:pH l q g lX ae)(bq:aw.di dF=[]):b2 l q g ae aw sc am m aA lX []:=by refine bZ;intro o P G s j mw W n X b M e ab L Qr i z bI kL d aU a;unfold wG;rw[k.getElem?_eq_none_iff.bk (k.drop_eq_nil_iff.mp bq)];refine cc.bc i.t i.x z (show kg q g ae s (λv=>ret [v]) n=f eM from d) (λv aL j9 an U t1 x1 al rv F=>so_ F λb9 aO=>?_) λp p p p p p W=>nomatch W;subst b9 aO;obtain ⟨rv,e5⟩:=rv;have aB:=i.ext x1;clear F d z i;refine wpAny_list_append_plain (b:=a0) aB.bj (λN bf aQ=>?_) (by rw[k.size_toArray,<-aB.j6.aF];exact qo (I.cm en aU));obtain ⟨n1,F⟩:=aB.bj;obtain ⟨n2,aC⟩:=ha bf;have Ma:bw [G] j9 U:=aB.tm.sub λe Z=>k.bt.mp Z▸ .dr _ cZ;have x2:kK [G] j9 U j9 N:= .one aQ cZ λD d=>⟨_,aC,a3.f.aE fC▸⟨rfl,λp=>rfl⟩⟩;have e1:∀v∈[G],∀D,U.bx v=f D->2<=e3 D.bE:=k.forall_mem_singleton.bk λD d=>a3.f.aE fC▸(by decide:(2:I)<=3);have x3:kK bO j9 U j9 N:=x2.mono λe Z=>k.bt.mp Z▸ .dr _ cZ;rw[k.push_toArray] at bf;exact a j9 N t1 (ab++[aL]) (aB.dS x3 (aB.x.mv Ma.tU x2.v.mv e1) bf ((aB.j6.snoc rv).mv Ma.tU x2.v.mv)) ((x1.aL _).aW x3) (al.one aQ Ma x2) λr c D d O=>aQ.extBut c D (λE=>O (E▸ .dr _ cZ)) (e5 r c D d)
theorem afF{Am:ad}{t' a1:ar}{bP:k ar}(bH:qN l q g lX Am a1)(cd:∀K h,dY a1 K h=cp h)(ok:r4 l q g ae aA lX Am t' bP aG)(aJ:aw[m+1]?=f eF)(O:b2 l q g ae aw sc am dF (aA++vV t') lX aG):
  b2 l q g ae aw sc am m aA false gL:=by
 refine bZ;intro o P G s j mw W n X b M e ab L Qr i z bI kL d aU a;unfold wG;rw[aJ];refine ⟨rfl,λh=>cd P h,?_⟩;refine bH.bc i.t i.x z (show vP (uT q g a1 s) (kg q g a1 s) (λA=>ki A.cC (Gl q g ae t' bP aG s) A.cJ) n=f eM from d) (λA ak E tt ah j9 an U t1 x1 al aq ce a8 cF qm F=>?_) λp p p p p p W=>nomatch W;refine Qe aJ (λfb=>l6.self (b:=a0) al aq ce fb) ?_;obtain ⟨o1,o2,o3,nu⟩:=ok.aZ;have aB:=i.ext x1;have ai4:∀v∈ah,v∉bO/\b.B.af.Q<=v:=λv ai=>⟨λr=>by obtain ⟨_,_,D,a9,_⟩:=i.tm v r;exact da (az.lt_size a9) (I.fo.bk (a8 v ai)),a8 v ai⟩
 refine P4 (b:=a0) (mw:=j) (W:=b.B) (ck:=a1) o1 o2 o3 nu aJ O ⟨aB.t,aB.x,aB.tm,aB.bj,aB.j6,x1.aL _⟩ al aq cF qm bI ai4 kL F (by rw[k.d7];exact aU) λlI N t2 C1 be aT=>?_;exact a lI N t2 C1 (i.dS be.x0 be.x be.bj be.j6) be.x0 aT λr=>bp r
theorem afG g5:∀dH,aw.di dF=aG->b2 l q g ae aw sc am m dK lX aG:=by
 induction ok with
 |d6 b4 c8 c9 c_ cc=>exact λbq=>afE cc bq
 |@d_ aA tf J ap LF Am t' a1 bP aG b4 c8 c9 c_ bH cd ok' ih=>
  intro m bq;have aJ:aw[m+1]?=f eF:=by have:=b7 (λC=>C[0]?) bq;simpa [k.getElem?_drop] using this
  have hk2:aw.di (m+1+1)=aG:=by have:=b7 (k.di 1) bq;simpa [k.drop_drop] using this
  exact afF bH cd ok' aJ (ih hk2)
end
end
end
end
mutual
example _ e x h env ρ List some s f jF b c σ X g r z W n q u v h1 A m ζ l i L h' Nat p e1 w M τ k t y T h2 ρ' a o ok x1 ev acc e2 ts heap E _ _ _ _ _ _ _ _ _ _ _ sc Q ac R lookup g1 σ' elim bnd length size names N free objs hv ret h3 wpAny_bind «at» Heap hb hfr hz pure C hc hn hL hs σ1 absurd Str pos trans wpAny e3 cenv g2 ha hw hx run G Shared cs hi{b:aG}Bool Expr NameKind V Value fs Addr B Env fl hl mem_singleton slot[kY kn kr]Option P cell cells gd hq is it kindOf cons e4 f2 hD ho inj j mpr toks{d:a4}d e6 forL h5 hk hr «by» h₀ if_neg if_pos map{aH:b2}Except PySem cont err f1 g3 hd hf inl nil[aG×kN]{m:jE}[⟨?_⟩][{h with Y:=w,bq:=t1}]I body hB hm hts inr locals own[{h with Y:=D,bq:=tk}]Ext Pos a1 bs flatMap hV hce h₁ nameOf old out s₁{j:jL}{x:cz}[i.ext T]D Stmt Tuple c2 c3 congrArg filterMap get? gl hj outer swappedStores wpAny_pure[lk n b](S:yi n aa)[aG×a2][.aq v]{aa:d_}{X:f aX}h'' Around K cout ea elt hn2 hns lookup_cons not_lt rest scope wpAny_mono wpAny_of_eq(i:FR r n d j e c)[mem_of_lookup w]{ad:Type}{p:bE jD ad×jE}{A:f jD}{h:aS}[(.error M,J)][{h with Y:=c,bq:=tk}]Calls Decidable Name Sem SeqAt bad bindName eraseDups fn function getD guard ht ifs kind kinds push wpAny_holding(bW:qM X)[.a8 B k][lR n aa.al j.aj][[cf]][e++[(cf,none)]](aT:yi n aa){r:f a2}[by simp][(b,aY.an)][tm.ext T](aA:D7 a){Z:a0->aS->Prop}(n:f bO)«do» acc' Assign F Tame a2 after assign assignInOrder c1 c4 cellOf eraseDups_cons f3 globalExplicit globalImplicit hI he hg id items le_succ_of_le mem_append mem_cons reverse set_comm size_push three t₁[aG×aY]{k:aW}[j++f.replicate (rK aa.al) none]{cD L bg:aX}{c7:f aX}{cI:f Comprehension}[⟨L,bg,c7,0⟩::cI][e++[(w.ao.ak,none)]](bL:∀d b,foldedSetIterable bg d b=ay b){e:jV}{a:aX}(c:kI s N n a)(av:vA s N n k)(e:jL){l:jL->I aW}{k:jL->I jI}ForInStep ListComp SameBut Scope a3 apart arm_exec_Assign assignAll bi cl cp eval extBut get?_push_of_some getElem?_append_left globals hu keep keeps le_refl list lt_size lt_succ_self mem_cons_self noted qual succ_ne_self swapsWithSole s₂ type wpAny_execs_nil wpAny_standAt(d:a4)[[.ch X Q pa]][(by rw[aU];rfl)][T.aI x2][K==aY.an&&d.cJ.c8== .c3&&d.bh b==g .bb][a▸c]{am B:E}[lR n aa.al am]{B:E}{ws:f a0}[(cf,none)][.d8 cD dX aa aH][uT N n bg j][kg N n bg j][width n]{lX tf:aW}(aU:qN s N n lX tf bg)(S:r4 s N (lR n aa.al eQ) cD [] lX tf L c7 cI)(i:FR r n d j e h.Y)(o:aR e m h.Y){V:f cu}[y.ext T]{L:aX}{ab:Flow->aS->Prop}[[.cW b xp]][(T.H r).aI x2](C:q8 s x r n d kM bz j e m c){k:f cg}[λP=>aq (.next P)][λv=>aq cv][.bG P](N:Tb){e:jL}{bd:jE->Prop}{bT:jD->jL->I jI}{K:E}a4 assignEach b1 b2 beq_self_eq_true bj bne_eq_false_iff_eq builtins closure closureFor compPost ct e5 eq_of_beq f4 false_ne_true forall_mem_cons forall_mem_singleton fp frames getElem?_append_right getElem?_eq_some_iff hF hQ hU holding le_add_right le_of_eq le_succ lookup_mem map_cons mem_cons_of_mem places relabel swapsWith toArray[if F=true then g b else none][constantsAlone 8][.bM rfl]{al:f dR}{ab:Unit->aS->Prop}(L:ds r e h.Y){K:jL->I ad}(a:CI n X A j K m=g p)[(by rw[bV,H];rfl)][[.ch X K tp]][rA d aa.al []][d.bh b=g .bb\/d.bh b=g .an][(by rw[be];rfl)][(b:aG×aY)]{R:a_ kN}[(aT:f cu)][amY rfl][b.2== .an][.ca B](a:lk eJ b=g f3){C:a2}{aL:a4}[{cJ:=fI aa d,bY:=C,el:=d.el,bc:=rA d aa.al [],ev:=d.ev,func:=none,code:=d.code,frame:=d.frame,fi:=d.fi}](b7:aL=f7)[d7.yield ((b.1,Q)::aT)]{b M:aG}[d7.yield aT][d7 (f cu)]{vs:f jD}(a6:vs.aj<=lim)[m++[.eq vs]][.obj m.aj]{K:jD->I ad}[⟨L,bg,c7,0⟩](a:kg N n eN j K m=g p)[lR n aa.al eQ][ki B.c5 (Gl N gj cD L c7 cI dT) B.dI][alloc (.eq vs)]{o:jE->Prop}[ax.symm.aI q.symm]{mw e:jV}[{cls:= .ez "list",data:= .seq ([]:f a0).fK}]{A:f dR}{l:a2}[λB bS t tt aZ j9 aE w t1 T af bf hgd b6 be qm G=>?_][{h with Y:=O,bq:=_}][au.er bs.1][tD hfit][⟨E.le_trans o.b4 aC,λvs L=>?_⟩][(by rw[aD.1];exact E.ep _)][λk R a av=>aD.ei k R (by simpa using av) a][d::a1][.refl _ _ _][T.H r](c6:pI s N n L)[F.du VI][jK.du VI](a:aX){L a:aX}[[dv L d]][eh a d][exec (.dq [L] a aH) d][show ex [L] a aH.line d=ay false from aA _ _ _][λv=>rR n b v j kn][λv H j9 aE w t1 T af rv G=>?_][.d8 cD dX aa eg][(q,(d.bc.ae q).c4 0)][.cW b xp](bU:a3<=h.Y.ao.ak)(aw:x.fu=g gz)[(.error M,ag)][notedBy az.I x d λa s'=>cameBackBy az.I x d Z a s'][(b,(d.bc.ae b).c4 0)::V][(by cases t;exact W)][by cases t][.next j](o:aR P ag D)[C.H b o i](L:aX)(k:f cg){b:jD}[b::A][bu bd bT A j][.ref bS][a6▸a](s:E)(x:cz)(r:f a2)(kM:jV)(h:aS)(am:E)(s':aS)[aiB N n L k][bu B.c5 hd A j][be q][{h with Y:=bv,bq:=t5}][⟨inv,inv⟩](l:jL->I aW)(k:jL->I jI)(K:E)[.next e][k e][K+1][arl N n L][ark N n k][lZ ho hp am j][{h with Y:=O,bq:=t2}]{α β:Type}[.bi _ _ .bN]{i:aX->a_ aG}[.cW b F](one:∀b F,i hv=g b\/i hv=none)[a_ (f aG)][by decide]ab bm dk fr h4:True:=x
mutual
section
open bF.cU bF.cY
noncomputable def rA eC:f dR->f cu->f cu
 |[],V=>V
 |(b,.an)::p,V=>rA d p gU
 |(_,_)::p,V=>rA d p V
theorem agf cw br(c:∀b∈aa.al,b.2= .an->∃l,d.bc.ae b.1=g l):fk aa d=ay fV:=by
 unfold fk;have key:∀(A:f dR) (V:f cu),(∀b∈A,b.2= .an->∃l,d.bc.ae b.1=g l)->
   (forIn A V λfY f0=>(if f2=true then do let Q<-dz d b.1;ay f9 else ay ga:cX gb))=ay (rA d A V):=by
  intro A;induction A with
  |bN=>intro V _;rfl
  |bi M p ih=>
   intro V a6;obtain ⟨b,kd⟩:=M;have ih':=λV=>ih V λq ax=>a6 q (f.fG _ ax);rw[f.forIn_cons];cases kd with
   |an=>
    obtain ⟨l,aA⟩:=a6 _ f.et rfl;have aA:d.bc.ae b=g l:=aA;have:dz d b=ay l:=by unfold dz;rw[aA]
    dsimp only;rw[bB (show (aY.an==aY.an)=true from rfl),this];exact (ih' ((b,l)::V)).aI (by show _=ay (rA d p gU);rw[aA];rfl)
   |_=>exact ih' V
 show (forIn aa.al [] (λfY f0=>(if f2=true then do let Q<-dz d b.1;ay f9 else ay ga:cX gb))>>=λh=>ay h)=_;rw[key aa.al [] c];rfl
theorem agd br gq aV gr:∀eW,(rA d A V).ae b=g l->(dj∈A/\l=(d.bc.ae b).c4 0)\/V.ae b=g l:=by
 induction A with
 |bN=>exact λc=> .bX c
 |bi M p ih=>
  have up:∀{V dp:f cu},(V.ae b=g l->(M=dj/\l=(d.bc.ae b).c4 0)\/dp.ae b=g l)->(rA d p V).ae b=g l->(dj∈M::p/\l=(d.bc.ae b).c4 0)\/dp.ae b=g l:=λi c=>
   (ih c).ah (λc=> .bM ⟨f.fG _ c.1,c.2⟩) λc=>(i c).ah (λc=> .bM ⟨c.1▸f.et,c.2⟩) .bX
  obtain ⟨q,kd⟩:=M;cases kd with
  |an=>
   refine λ{V} c=>up (V:=gO::V) (dp:=V) (λc=>?_) c;rw[f.cG] at c;cases a:b==q with
   |true=>rw[a] at c;clear up;cases fo a;exact .bM ⟨rfl,(a_.g.bn c).symm⟩
   |false=>rw[a] at c;exact .bX c
  |_=>exact λ{V} c=>up (V:=V) .bX c
theorem age br gq aV:∀eW,(dj∈A\/∃l,V.ae b=g l)->∃l,(rA d A V).ae b=g l:=by
 induction A with
 |bN=>exact λc=>c.ah (λc=>(f.not_mem_nil c).ah) dH
 |bi M p ih=>
  obtain ⟨q,kd⟩:=M;have skip:∀eW,kd≠ .an->(dj∈(q,kd)::p\/∃l,V.ae b=g l)->∃l,(rA d p V).ae b=g l:=λs c=>ih (c.imp (λc=>(f.dL.mp c).ah (λa=>aF (ck Prod.snd a).symm s) dH) dH);cases kd with
  |an=>
   refine λ{V} c=>(ih ?_:∃l,(rA d p (gO::V)).ae b=g l);cases a:b==q with
   |true=>exact .bX ⟨_,by rw[f.cG,a]⟩
   |false=>refine c.imp (λc=>(f.dL.mp c).ah (λt=>?_) dH) λc=>c.ah λl c=>⟨l,by rw[f.cG,a];exact c⟩;clear skip c;cases (ck Prod.fst t:b=q);exact tf_ ((ff b).symm.aI a)
  |_=>exact λ{V} c=>skip (V:=V) nofun c
theorem alv hs{i:aG->α->β}{A:f (aG×α)} aV:(A.bC λF=>(F.1,i F.1 F.2)).ae b=(A.ae b).bC (i b):=by
 induction A with
 |bN=>rfl
 |bi M p ih=>
  rw[f.fF,f.cG,f.cG];cases a:b==M.1 with
  |true=>clear ih;cases fo a;rfl
  |false=>exact ih
theorem alw br fO aV:(al.bC λ(s,K)=>if (K==aY.an&&d.cJ.c8== .c3&&d.bh s==g .bb) then (s,aY.bb) else (s,K)).ae b=
  (al.ae b).bC λK=>if eG then aY.bb else K:=by
 rw[<-alv (i:=λb K=>if eG then aY.bb else K)];exact ck (f.ae b) (f.map_congr_left λF z=>by
  show (if _ then _ else _)=_;by_cases aA:(F.2==aY.an&&d.cJ.c8== .c3&&d.bh F.1==g .bb)=true
  ·rw[bB aA,bB aA]
  ·rw[bA aA,bA aA])
structure yi(n:f bO)(aa:d_):Prop where
 c2:aa.c8= .c3
 nd:(aa.al.bC (·.1)).Nodup
 c9:∀b∈aa.al,b.2≠ .bb/\b.2≠ .dC
 plain:∀b∈aa.al,(b.1==("__debug__":aG))=false/\(b.1==("__classdict__":aG))=false
 an:∀b∈aa.al,b.2= .an->kN.cp (lk n b.1)≠ .cZ
mutual
section
variable {r:f a2}{n:f bO}{d:a4}{j:jL}{e:jV}{c:au}{aa:d_}
theorem fE fO(nd:(al.bC (·.1)).Nodup) aV{K:aY}(bV:(b,K)∈al):al.ae b=g K:=by
 induction al with
 |bN=>simp at bV
 |bi M p ih=>
  obtain ⟨q,kd⟩:=M;rw[f.fF,f.nodup_cons] at nd;rw[f.cG];rcases f.dL.mp bV with a|hm'
  ·clear nd bV;cases a;rw[ff]
  ·have hne:(b==q)=false:=by
    rw[beq_eq_false_iff_ne];rintro rfl;exact nd.1 (f.mem_map.bp ⟨_,hm',rfl⟩)
   rw[hne];exact ih nd.2 hm'
theorem FR.J0 cM aV(aP:kN.cp cs≠ .cZ):∃B l,kN.at? cs=g B/\kN.cp cs= .ca B/\fW/\d.bc.ae b=g l:=by
 cases be:lk n b with
 |none=>rw[be] at aP;exact aF rfl aP
 |g t=>
  rw[be] at aP;cases t with
  |a8 B k=>
   cases k with
   |false=>exact aF rfl aP
   |true=>have bw:=i.vR b B true be;obtain ⟨l,_,b3,_⟩:=i.ef b B fX (.bM bw);exact ⟨B,l,rfl,rfl,.bM bw,b3⟩
  |ca B=>have bw:=i.ca b B be;obtain ⟨l,_,b3,_⟩:=i.ef b B fX bw;exact ⟨B,l,rfl,rfl,bw,b3⟩
  |cn=>exact aF rfl aP
  |cZ=>exact aF rfl aP
theorem FR.fj cM ct:∀b∈aa.al,b.2= .an->∃l,d.bc.ae b.1=g l:=λb aP bw=>by obtain ⟨_,l,_,_,_,Q⟩:=i.J0 (S.an b aP bw);exact ⟨l,Q⟩
theorem amY fZ{t:kN}(c:(match t with| .a8 _ _=>true| .cn=>true|_=>false)=true):t≠kN.cp R:=λa=>by
 cases R with
 |none=>exact nomatch eH
 |g t=>cases t with
  |a8 s l=>cases l<;>exact nomatch eH
  |_=>exact nomatch eH
theorem yi.a8 ct eI aV dS(a:lk eJ b=g dc):k=false/\aa.al.ae b=g .local/\am<=B/\B<am+rK aa.al:=by
 obtain ⟨kd,w,O⟩:=zZ a;cases kd with
 |«local»=>obtain ⟨bo,a,Q,k⟩:=O;cases a;exact ⟨rfl,w,Q,k⟩
 |bb=>exact aF rfl (S.c9 _ cN).1
 |an=>exact aF (O:kN.a8 B k=kN.cp cs) f1
 |dD=>cases O
 |dC=>cases O
theorem yi.cn ct{am:E} aV(a:lk eJ b=g .cn):aa.al.ae b=g .dD:=by
 obtain ⟨kd,w,O⟩:=zZ a;cases kd with
 |dD=>exact w
 |«local»=>obtain ⟨_,a,_⟩:=O;cases a
 |bb=>exact aF rfl (S.c9 _ cN).1
 |an=>exact aF (O:kN.cn=kN.cp cs) f1
 |dC=>cases O
theorem FR.cB cM ct eI aV f4:aa.al.ae b=g .an/\∃l,kN.at? cs=g B/\fW/\d.bc.ae b=g l:=by
 obtain ⟨kd,w,O⟩:=zZ a;cases kd with
 |«local»=>obtain ⟨bo,a,_⟩:=O;cases a
 |bb=>exact aF rfl (S.c9 _ cN).1
 |an=>obtain ⟨bo,l,b3,dt,ea,fb⟩:=i.J0 (S.an _ cN rfl);cases (O:kN.ca B=kN.cp cs).aI dt;exact ⟨w,l,b3,ea,fb⟩
 |dD=>cases O
 |dC=>cases O
theorem BA fZ eK(a:kN.at? R=g B):(∃k,R=g dc)\/R=g f3:=by
 cases R with
 |none=>cases a
 |g t=>cases t with
  |a8 s k=>cases a;exact .bM ⟨k,rfl⟩
  |ca s=>cases a;exact .bX rfl
  |_=>cases a
theorem FR.Jx cM ct aV gr(a:(rA d aa.al []).ae b=g l):d.bc.ae b=g l:=by
 obtain ⟨bV,aA⟩|a:=agd a
 ·obtain ⟨_,c',_,_,_,Q⟩:=i.J0 (S.an _ bV rfl);rw[aA,Q];rfl
 ·cases a
theorem FR.JD cM ct eI aV f4:B<j.aj:=(i.cB S a).2.ah λz l=>i.lt _ _ l.1
theorem FR.comp f5 cM ct(aC:a3<=C)(rF:C∉bZ e){y:aG->a_ a0}(aB:c.Ns C y) f6 f8:
  FR [aL.bY] dd aL dT e c:=by
 subst b7;have bh:∀b,a4.bh f7 b=
   (aa.al.ae b).bC λK=>if eG then aY.bb else K:=λb=>alw
 have ne:∀f_ {B bo:E} dS,lk dd b=g dc->lk dd M=g (.ca bo)->B≠bo:=λa e' t=>E.cH.bp (S.a8 a).2.2.1 (t▸i.JD S e');refine ⟨S.c2,i.cn,i.ee,λb t a=>?_,λb a=>?_,λb B k a=>?_,λb B a=>?_,λb B a=>?_,λb M B a e'=>?_,⟨y,aB,λb B k v G W aK=>?_⟩,λb B G W=>?_,λb M l G W=>i.eb b M l (i.Jx S G) (i.Jx S W),⟨aC,rF,f.et⟩,λb B k l a bw=>?_⟩
 ·obtain ⟨kd,w,_⟩:=zZ a;exact S.plain _ cN
 ·rw[bh,S.cn a];rfl
 ·obtain ⟨rfl,w,_⟩:=S.a8 a;rw[bh,w];rfl
 ·rw[bh,(i.cB S a).1,a_.map_some];exact (aW.eq_false_or_eq_true (aY.an==aY.an&&d.cJ.c8== .c3&&d.bh b==g .bb)).ah (λc=> .bM (ck g (bB c))) λc=> .bX (ck g (bA (c▸aW.fq)))
 ·rw[f.length_append,f.length_replicate];exact (BA a).ah (λa=>a.ah λk a=>(S.a8 a).2.2.2) λa=>E.lt_of_lt_of_le (i.JD S a) (E.fB _ _)
 ·obtain ⟨k,a⟩|a:=BA a
  ·exact (BA e').ah (λe'=>e'.ah λb' e'=>K0 a e') λe'=>aF rfl (ne a e')
  ·exact (BA e').ah (λe'=>e'.ah λb' e'=>aF rfl (ne e' a)) λe'=>(i.cB S a).2.ah λz l=>(i.cB S e').2.ah λz c'=>i.bn b M B l.1 c'.1
 ·rw[f.fv (S.a8 G).2.2.1] at aK;exact nomatch (f.mem_replicate.mp (f.mem_of_getElem? aK)).2
 ·obtain ⟨k,G⟩|G:=BA G
  ·obtain ⟨_,w,_⟩:=S.a8 G;rw[bh,w] at W;rcases W with W|W<;>cases W
  ·obtain ⟨w,l,b3,dt,ea⟩:=i.cB S G;obtain ⟨c',u,fd,fe,lK,o9,qP⟩:=i.ef b B b3 dt;obtain ⟨ci,hc2⟩:=age (d:=d) (A:=aa.al) (V:=[]) (.bM cN);have:=i.Jx S hc2;rw[fd] at this;cases this;refine ⟨c',u,hc2,fe,lK,o9,λv a=>?_⟩;rw[f.ek (i.JD S G)] at a;exact qP v a
 ·obtain ⟨_,w,_⟩:=S.a8 a;rw[bh,w] at bw;cases bw
end
end
mutual
section
open bF.cU bF.cY
mutual
section
variable {e:jV}{m:jE}{c:au}
theorem aR.adopt{cf:a2} gc eL(o:aR e m c)(bl:ng c cf ws.fK)(bm:cf∉bZ e)(bU:a3<=cf)(rv:jR e c vs ws) gd:
  s8 de e c df c/\pY de c/\aR df ge c/\jG df c gf (.ref cf):=by
 have nv:bZ df=bZ e++de:=by simp [bZ]
 have mv:s8 de e c df c:=⟨λs F a=>by rw[f.ek (f.fw.mp a).1];exact a,λk R a av b6=>⟨by
  rw[nv,f.dK];rintro (t|t)
  ·exact av t
  ·exact b6 t,R.slots,a⟩⟩
 have mQ:pY de c:=λk av=>by rw[f.a7] at av;clear bm nv mv;subst av;refine ⟨bU,λvs L=>?_⟩;obtain ⟨R,a,aA,_⟩:=L;obtain ⟨s,e'⟩:=bl;rw[a] at e';clear a xζ3;cases e';exact aF aA (show ¬(a0.ez "list"=a0.ez "tuple") by decide)
 refine ⟨mv,mQ,⟨o.base,o.b4,by simp [o.len],?_,λQ aN=>?_,λs R a=>?_⟩,.obj (F:=eM) (by rw[<-o.len];simp)⟩
 ·rw[nv,f.nodup_append];exact ⟨o.nd,by simp,λQ aN k av=>by rw[f.a7] at av;clear bl bU nv mv mQ;subst av;exact λq=>bm (q▸aN)⟩
 ·rw[nv,f.dK] at aN;rcases aN with aN|aN
  ·exact o.hz Q aN
  ·rw[f.a7] at aN;clear bl bm nv mv mQ;subst aN;exact bU
 ·by_cases aB:s<m.aj
  ·rw[f.ek aB] at a;obtain ⟨t,be,ro⟩:=o.ro s R a;exact ⟨t,mv.pR s t be,ro.mv mQ mv λz z=>rfl⟩
  ·have hn':s=m.aj:=by
    have:=(f.fw.mp a).1;simp at this;omega
   clear aB;subst hn';simp at a;subst a;exact ⟨eM,by rw[<-o.len];simp,.eq bl (rv.mv mQ mv) a6⟩
end
mutual
section
variable {s:E}{N:Tb}{n:f bO}
theorem ags dU dV dW cw bD cO cc bP gg cP gi:
  width n=j.aj/\vP eO eP (λB=>ai gk λvs=>ai gl K) m=g p:=by
 have a:(match E.beq eQ j.aj with|false=>stuck|true=>vP eO eP λB=>ai gk λvs=>ai gl K) m=g p:=a;cases aO:E.beq eQ j.aj with
 |false=>rw[aO] at a;exact ns_ a
 |true=>rw[aO] at a;exact ⟨E.eq_of_beq_eq_true aO,a⟩
theorem agj cO gm{i:jD->I (f jD)} cQ{cA:f jD->I ad} bP cP(a:ai (ki o i A) cA m=g p):∃vs J,ki o i A m=g (.S vs,J)/\cA vs J=g p:=by
 rcases BD a with ⟨vs,J,W,aK⟩|⟨M,J,W,_⟩
 ·exact ⟨vs,J,W,aK⟩
 ·exact aF W Qa
theorem agu cw eK aV dS cc dg(c:lk dd b=g dc):dT[B]?=g none:=by obtain ⟨_,_,Q,l⟩:=aT.a8 c;rw[f.fv Q,f.getElem?_replicate,bB (E.sub_lt_left_of_lt_add Q l)]
theorem agt{w O:au}{A R:Obj}(bL:A.isFreed=false)(aD:au.d9 (w.c_ A).ao.ak ((w.c_ A).c_ R) O):(∀k R,w.cm k=g R->O.cm k=g R)/\w.ao.ak<=O.ao.ak/\O.cm w.ao.ak=g A:=by
 have ax:(w.c_ A).ao.ak=w.ao.ak+1:=au.dO ..;refine ⟨λk R a=>aD.ei k R (λq=>?_) (au.ej _ (au.ej _ a)),?_,aD.ei _ _ (λq=>E.ew _ gn) (au.ej _ (au.get?_push_size _ bL))⟩
 ·exact aF (au.er a) (E.cH.bp (E.le_of_lt (E.lt_of_lt_of_eq (E.es _) gn)))
 ·rw[aD.1,au.dO,ax];exact E.fB _ 2
theorem agv cd{d aL:a4} dh cc go{bx w O:au} bP cw{mp:aG->a_ a0} dg(y:kR s x e w)(i:FR r n d j e w)(o:aR e m w)(b:b1 mw bx e w)
  f5(Rv:C=w.ao.ak+1)(cF:O.Ns C mp)(b_:∀k R,w.cm k=g R->O.cm k=g R)(ax:w.ao.ak<=O.ao.ak)(bl:O.cm w.ao.ak=g gp)
  f8:
  n_ s x dd aL w.ao.ak mw bx dT e O [] []/\aR e m O:=by
 have x2:b1 e w e O:= .eo ax b_;have z7:∀Q,w.ao.ak<=Q->Q∉bZ e:=λQ aN t=>aF (o.sG _ t) (E.cH.bp aN);have Rt:a3<=C:=Rv▸E.dJ o.b4;have RG:C∉bZ e:=z7 _ (Rv▸E.fD _);have aC:aL.bY=C:=by rw[b7]
 obtain ⟨R,bm,bK⟩:=qT cF;exact ⟨⟨y.ext x2,(i.ext x2).comp aT Rt RG cF b7,
  f.fr.bp ⟨aC.symm▸⟨Rt,RG,R,bm,λq=>aF (bK.symm.aI q) hy⟩,f.fs.bp ⟨o.b4,z7 _ (E.ep _),_,bl,λz=>rfl⟩⟩,
  ⟨0,bl⟩,.bN,(b.aI x2).H _⟩,o.eo ax b_⟩
theorem agr cd f6 cc go{bx w ar:au} bP gc eL(l:n_ s x n aL w.ao.ak mw bx j e ar vs ws)(o:aR e m ar)(aC:aL.bY=w.ao.ak+1)(bU:a3<=w.ao.ak)(ax:bx.ao.ak<=w.ao.ak) gd:
  b1 mw bx dY ar/\aR dY ge ar/\jG dY ar gf (.ref w.ao.ak)/\aL.bY∉bZ dY/\∃mp,ar.Ns aL.bY mp:=by
 obtain ⟨mv,mQ,mV,LR⟩:=o.adopt l.bl l.ca bU l.j6 a6;have ye:b1 mw bx e ar:=l.x0.ext (f.fr.bp ⟨aC.symm▸E.dJ ax,f.fs.bp ax⟩);obtain ⟨⟨J,B0,Ko⟩,kp⟩:=ye;obtain ⟨mp,hmp,_⟩:=l.i.ns;refine ⟨⟨⟨J++[(w.ao.ak,none)],by rw[B0,f.append_assoc],λQ aN=>?_⟩,kp⟩,mV,LR,λt=>?_,mp,hmp⟩
 ·rw[xS,f.dK] at aN;exact aN.ah (Ko Q) λaN=>f.a7.mp aN▸ax
 ·rw[xS,f.dK] at t;exact t.ah l.i.low.2.1 λt=>E.ew _ (aC.symm.aI (f.a7.mp t))
theorem Qf dU dV dW cw bD eR dg eS dZ
  eT
  cO cd br dh cc d0 bP cR gg cP{ab Z:a0->aS->Prop}{use:a_ (a0->cX Unit)}{ft:b2}
  (y:kR s x e h.Y) eU eV gi
  (F:∀v H P ag D tk C,b1 e h.Y P D->aR P ag D->jG P D v H->K v ag=g p->h.Y.ao.ak<=C->C∉bZ P->(∃mp,D.Ns C mp)->fl az.I x Z use ab H C (.S .next) b0)(jK:nF p e h Z):
  aJ az.I x (comprehension eN aa d ft (newList []) false (eh bg d) use) ab Z h:=by
 obtain ⟨aO,a⟩:=ags a;rw[aO] at S a;have bT:=afG (gens:=gh::cI) (aa:=aa) (aH:=aH) S (K:=0) rfl;obtain ⟨ht',ajE,fz,ajn⟩:=S.bK;clear S aO;refine wpAny_comprehension_free rfl (λb=>bL d b) (agf (i.fj aT)) aT.c2 (λb aP a6=>fE aT.nd (by obtain ⟨Q,k⟩:=b;cases a6;exact aP)) ?_;refine aU.aQ y i o a gs jK;obtain ⟨vs,σ2,W,aK⟩:=agj G;obtain ⟨hfit,bj⟩:=qw aK;clear aU bL a G aK jK;refine wpAny_newList ?_ (by simp [sizeLine_eq]);refine wpAny_newFunctionEnv (λb aP=>(aT.c9 b aP).1) di (λO cF RK=>?_) aT.c2;obtain ⟨b_,hz2,bl⟩:=agt rfl RK;generalize b7:({newEnv aa (w.c_ gp).ao.ak d.el fV d.ev none a0.none (g d) builtinsNs with cJ:=fI aa d}:a4)=aL;have aC:aL.bY=w.ao.ak+1:=by rw[<-b7];exact au.dO ..
 obtain ⟨ci,aM⟩:=agv (x:=x) (d:=d) (aL:=aL) aT eX ce af T (au.dO ..) cF b_ hz2 bl (by rw[<-b7];rfl);have E6:=bf.en (r:=[]) (λz q=>nomatch q) ((b1.eo hz2 b_).H []) (λz z q=>nomatch q) (λz k R a z=>b_ k R a);refine Qe rfl (λfy=>l6.self (h:=gt) aM E6 hgd fy) ?_;have eb:∀v∈aZ,v∉[aL.bY,w.ao.ak]/\h.Y.ao.ak<=v:=λv ap=>⟨λq=>(bf.fH v ap).2.2.ah λR bs=>E.cH.bp ((f.dL.mp q).ah (λq=>q▸aC.symm▸E.fD _) λq=>E.fC (f.a7.mp q).symm) gu,b6 v ap⟩;clear RK cF bf b_ hz2 bl;refine P4 (h:=gt) (mw:=e) (bx:=h.Y) (iter:=bg) (V:=[]) (ws:=[]) ht' ajE fz ajn rfl bT ci aM E6 be qm (by rw[aC];exact E.ew _) eb (λb B k aP z=>agu aT aP) W gv λqK ar t3 ati cj bJ=>?_;obtain ⟨x4,mV,LR,rF,aB⟩:=agr cj bJ aC af.b4 T.ak gv;have:=F _ _ _ _ ar t3 aL.bY x4 mV LR bj (aC▸E.dJ T.ak) rF aB;rw[<-b7] at this;exact this
end
end
mutual
section
open bF.cU bF.cY
mutual
section
variable {s:E}{N:Tb}{n:f bO}
theorem OX dU dV dW cw bD eR dg eS dZ
  eT:kI s N n eN:=by
 refine ⟨?_,⟨λz z=>rfl,λz=>rfl⟩⟩;intro ad x d r j e m h K p ab Z y i o U F jK;rw[eval_ListComp];refine Qf (use:=none) aT aU bL S y i o U (λv H P ag D tk C x' g' rv e' aC rF aB=>?_) jK;obtain ⟨mp,aB⟩:=aB;refine ⟨mp,aB,λcy aD=>?_⟩;replace aD:au.d9 C D cy:=aD;have mQ:pY [C] D:=λk av=>by rw[f.a7] at av;clear rF aD;subst av;refine gw;obtain ⟨R,a,bs⟩:=qT aB;obtain ⟨o',e',d'⟩:=Ky L;rw[a] at e';cases e';omega
 obtain ⟨xv,aiH⟩:=g'.v mQ gx gy (λv ap=>by rw[f.a7] at ap;clear aC aB aD mQ;subst ap;exact rF);have qt:b1 e h.Y P cy:=((x'.H []).CQ xv λv ap=>by rw[f.a7] at ap;clear rF aB aD mQ xv;subst ap;exact aC).ext di;exact F v H P ag cy tk qt aiH (rv.mv mQ xv.mv) e'
structure ni(s:E)(N:Tb)(n:f bO)(st:cg):Prop where
 aQ:∀{ad:Type} {x:cz} {d:a4} {a1:f a4} {r:f a2} {j:jL} {e:jV} {m:jE} {h:aS} {kn:jL->I ad} {kr:jD->I ad} {l5:jL->I ad} {p:bE jD ad×jE} {ab:Flow->aS->Prop} {Z:a0->aS->Prop},
  kR s x e h.Y->x.fu=g gz->FR r n d j e h.Y->ds r e h.Y->aR e m h.Y->Q0 N n st j kn kr l5 m=g p->A9 r n d p kn kr l5 e h ab->r6 r p e h Z->
  aJ az.I x (exec st d) ab Z h
structure vA(s:E)(N:Tb)(n:f bO)(ss:f cg):Prop where
 aQ:IM s N n ss
theorem ab9:vA s N n []:=by refine bQ;intro ad x d a1 r j e m h kn kr l5 p ab Z y aw i tm o U F jK;exact eA (F.next j e m h.Y h.bq gA o i U)
theorem ab8{st:cg}{ss:f cg}(c:ni s N n st)(aD:vA s N n ss):vA s N n (st::ss):=by refine bQ;intro ad x d a1 r j e m h kn kr l5 p ab Z y aw i tm o U F jK;refine wpAny_execs_cons (c.aQ y aw i tm o U ⟨λk7 j9 aE w t1 T af bI G=>?_,λv H j9 aE w t1 T af rv G=>F.aq v H j9 aE w t1 T af rv G,λk7 j9 aE w t1 T af bI G=>F.bG k7 j9 aE w t1 T af bI G⟩ jK);exact aD.aQ (h:=bR) (y.lV T) aw bI (tm.lV T) af G (F.du T) (jK.du T)
theorem acY d1 bD d2:ni s N n (.Return (g a) aH):=by refine bQ;intro ad x d a1 r j e m h kn kr l5 p ab Z y aw i tm o U F jK;refine wpAny_Return_some (c.aQ y i o U (λv H j9 aE w t1 T af rv G=>F.aq v H j9 aE w t1 gB af rv G) jK.bH)
theorem acQ bD:ni s N n (.Continue aH):=by refine bQ;intro ad x d a1 r j e m h kn kr l5 p ab Z y aw i tm o U F jK;exact wpAny_Continue (F.bG j e m h.Y h.bq gA o i U)
theorem acT eY{k R:f cg} bD gC d3(bm:vA s N n R):ni s N n (.If L k R aH):=by
 refine bQ;intro ad x d a1 r j e m h kn kr l5 p ab Z y aw i tm o U F jK;have U:kg N n L j (λv=>jY v λt=>match t with|true=>lD N n k j kn kr l5|false=>lD N n R j kn kr l5) m=g p:=U;refine wpAny_If (c6.aQ y i o U (λl c' j9 aE w t1 T af rc G=>?_) jK.bH);cases rc;have VI:=T.H r;cases l with
 |true=>rw[bB rfl];exact av.aQ (h:=bR) eX aw ce dk af G gD gE
 |false=>rw[bA di];exact bm.aQ (h:=bR) eX aw ce dk af G gD gE
noncomputable def D7 gF:Prop:=∀L A d,fJ a L A d=ay false
theorem acR d1 bD d2 dl:ni s N n (.aX a aH):=by refine bQ;intro ad x d a1 r j e m h kn kr l5 p ab Z y aw i tm o U F jK;have U:kg N n a j (λz=>kn j) m=g p:=U;refine wpAny_Expr_any (c.aQ y i o U (λv H j9 aE w t1 T af rv G=>F.next j j9 aE w t1 gB af ce G) jK.bH) ?_ (aA _ _ _);unfold interactive;rw[i.c2];rfl
theorem BN gG bD cd br cR eZ dm dl(cC:(fc [L] d).bC (·.2)=gH)(aO:cq [L] a d=ay none)
  (c:aJ az.I x gI (λv cb=>aJ az.I x (dv L d v) (λz ey=>ab .next ey) Z cb) Z h):aJ az.I x gJ ab Z h:=by
 rw[ec];refine as (eB (as (cL gK ?_)));rw[bA di];refine as (cK c (λv cb b8=>?_) λz z q=>q);refine as (cL aO ?_);rw[cC];show aJ az.I x (do ed v gH;ay .next) ab Z cb;exact as (cK b8 (λz ey h₂=>cr h₂) λz z q=>q)
theorem acV aV{xp aH:b2} d1 d2 dl:ni s N n (.dq e0 a aH):=by refine bQ;intro ad x d a1 r j e m h kn kr l5 p ab Z y aw i tm o U F jK;have U:kg N n a j gL m=g p:=U;refine BN aA rfl rfl (c.aQ y i o U gM jK.bH);exact xZ (h:=bR) ce dk af rv G λlI O t2 z z x2 aM bk W=>F.next lI j9 aE O t2 e1 aM bk W
theorem acW aV{xp eg aH:b2} dU dV dW cw eR dg eS dZ
  eT:ni s N n (.dq e0 gN aH):=by
 refine bQ;intro ad x d a1 r j e m h kn kr l5 p ab Z y aw i tm o U F jK;have U:kg N n gN j gL m=g p:=U;rw[ec];refine as (eB ?_);obtain ⟨t,be⟩:∃t,ex [.cW b xp] (.d8 cD (⟨L,bg,c7,0⟩::cI) aa eg) aH.line d=ay t:=by unfold ex fJ;exact ⟨_,rfl⟩
 refine as (cL be ?_);cases t with
 |false=>rw[bA di];refine as (cK ((OX aT aU bL S).aQ y i o U gM jK.bH) (λz z q=>q) λz z q=>q);refine as (cL (show cq _ _ _=ay none from rfl) ?_);show aJ az.I x (do ed H [dv gP d];ay .next) ab Z _;exact as (xZ (h:=bR) ce dk af rv G λlI O t2 z z x2 aM bk W=>cr (F.next lI j9 aE O t2 e1 aM bk W))
 |true=>
  rw[bB rfl];refine as ?_;rw[arm_evalThenUse_ListComp];refine as ?_;have G:firstIter dX d=eh bg d:=rfl;have W:firstAsync dX=false:=rfl;rw[G,W];generalize em:(λv=>ed v ((fc e0 d).bC (·.2)))=u;have ajF:∀v,u v=dv gP d v:=λv=>by rw[<-em];rfl
  clear em;refine Qf (use:=g u) aT aU bL S y i o U (λv H j9 aE w t1 C T af rv G aC rF aB=>?_) jK.bH;obtain ⟨mp,aB⟩:=aB;unfold fl;dsimp only;rw[ajF];have Ao:=tm.ext T;refine xZ (h:=bR) ce Ao af rv G λlI O t2 z cC x2 aM bk W=>?_;replace cC:sZ r w O:=cC;have zD:C∉r:=λq=>by obtain ⟨_,_,R,bm,_⟩:=tm C q;exact aF (au.er bm) (E.cH.bp aC)
  have cE:O.Ns C mp:=aB.at' λR a=>cC C R a zD;refine ⟨mp,cE,λar aD=>?_⟩;replace aD:au.d9 C O ar:=aD;have mQ:pY [C] O:=λk av=>by rw[f.a7] at av;clear rF aB zD aD;subst av;refine gw;obtain ⟨R,a,bs⟩:=qT cE;obtain ⟨o',e',d'⟩:=Ky L;rw[a] at e';cases e';omega
  obtain ⟨xv,bJ⟩:=aM.v mQ gx gy (λv ap=>by rw[f.a7] at ap;clear aC aB zD cE aD mQ;subst ap;exact rF);have qt:kK r e h.Y j9 ar:=((T.H r).aI x2).CQ xv λv ap=>by rw[f.a7] at ap;clear rF aB zD cE aD mQ xv;subst ap;exact aC
  have:=F.next lI j9 aE ar t2 qt bJ (bk.S4 mQ xv.mv (λq=>zD (by rw[f.a7] at q;rw[<-q];exact i.low.2.2)) λv ap R a=>by rw[f.a7] at ap;clear aC rF aB zD aD mQ xv;subst ap;obtain ⟨o',e',d'⟩:=qT cE;rw[a] at e';cases e';omega) W
  exact cr (cr this)
end
end
mutual
section
open bF.cU bF.cY
mutual
section
variable {s:E}{N:Tb}{n:f bO}
theorem r6.eu cO dh cP d0 cR cd br{a1:f a4} dm(jK:r6 r p e h Z) gQ gR
  {qu:jV}{b8:au}{dQ:E}{R':Type}{r':bE jD R'×jE}(b:kK r e h.Y qu b8)(bx:∀M ag,r'=gS->p=gS)(y:kR s x qu b8):
  r6 r r' qu {h with Y:=b8,bq:=dQ} gT:=by
 intro B P ag D tk a dF x' o a5;replace x':kK r qu b8 P D:=x';replace a5:qg P ag b8 D B a:=a5;have m':=y.lV x';obtain ⟨fs',BV,fx⟩:=m'.hC;rw[aw] at BV;cases BV;refine amr (r:=r) (kM:=e) (bz:=h.Y) (h:=b0) bU aw ⟨b.aI x',o,fx⟩ (a5.older b.ak) λcy b'' JW=>?_;exact jK B P ag cy tk a (bx _ _ dF) b''.b b''.o JW
theorem F8 hs{y:I α}{K:α->I β} bP{p:bE jD β×jE}(a:ai y K m=g p):∃r',y m=g r'/\(∀Q J,r'=(.S Q,J)->K Q J=g p)/\∀M J,r'=cS->p=cS:=by
 rcases BD a with ⟨Q,ag,G,W⟩|⟨M,ag,G,W⟩
 ·exact ⟨_,G,λQ J t=>gV,λM J t=>gW⟩
 ·exact ⟨_,G,λQ J t=>gW,λM J t=>gV⟩
structure C7{ad:Type}(p:bE jD ad×jE)(rb:bE jD jI×jE)(kr:jD->I ad)(ba:jL->jE->Prop):Prop where
 nx:∀j J,rb=(.S gX,J)->ba j J
 fm:∀j J,rb=(.S (.bG j),J)->ba j J
 aof:∀v J,rb=(.S cv,J)->kr v J=g p
 cZ:∀M J,rb=cS->p=cS
structure q8(s:E)(x:cz)(r:f a2)(n:f bO)(d:a4)(kM:jV)(bz:au)(j:jL)(e:jV)(m:jE)(c:au):Prop where
 y:kR s x e c
 i:FR r n d j e c
 tm:ds r e c
 o:aR e m c
 b:kK r kM bz e c
mutual
section
variable {x:cz}{r aZ:f a2}{d:a4}{a1:f a4}{kM e P:jV}{bz c D:au}{j k7:jL}{m ag:jE}{ad:Type}{p:bE jD ad×jE}{rb:bE jD jI×jE}{kn:jL->I ad}{kr:jD->I ad}{nx:jL->jE->Prop}{h:aS}{Z:a0->aS->Prop}{tk:E}
theorem q8.H e2(b:kK r e c P D) gY(i:FR r n d k7 P D):q8 s x r n d kM bz k7 P ag D:=⟨C.y.lV b,i,C.tm.lV b,o,C.b.aI b⟩
theorem q8.a e2(b:b1 e c P D) gY:q8 s x r n d kM bz j P ag D:=⟨C.y.ext b,C.i.ext b,C.tm.ext b,o,C.b.aI (b.H r)⟩
theorem SR e3 eZ d3 gR(jK:r6 r p kM h Z) gQ(C:q8 s x r n d kM h.Y j e m c)
  (a:lD N n k j e4 e5 (λP=>aq e6) m=g rb)(a3:C7 p rb kr nx)
  (Uj:∀k7 P ag D tk,q8 s x r n d kM h.Y k7 P ag D->kK r e c P D->nx k7 ag->ab .next b0/\ab .bG b0)
  (qr:∀v H P ag D tk,kK r kM h.Y P D->aR P ag D->jG P D v H->kr v ag=g p->ab (.aq H) b0):
  aJ az.I x (execs k d) ab gT cT:=
 av.aQ (h:=cT) C.y aw C.i C.tm C.o a
  ⟨λk7 P ag D tk b o i a=>(Uj k7 P ag D tk gZ b (a3.nx k7 ag (a_.g.bn a).symm)).1,λv H P ag D tk b o rv a=>qr v H P ag D tk (C.b.aI b) o rv (a3.aof v ag (a_.g.bn a).symm),
   λk7 P ag D tk b o i a=>(Uj k7 P ag D tk gZ b (a3.fm k7 ag (a_.g.bn a).symm)).2⟩ (jK.eu (dQ:=tk) bU aw C.b a3.cZ C.y)
noncomputable def aiB e7 dn g0 g1(b:jD) d4:I jI:=
 w4 n L b e λe=>lD N n k e e4 e5 λP=>aq e6
noncomputable def Qi(o:jE->Prop)(k:jD->jL->I jI)(A:f jD):jI->I jI
 | .aq v=>aq cv
 | .next e=>bu o k A e
 | .bG e=>bu o k A e
theorem aiD gm{k:jD->jL->I jI} g2 cQ e8:bu o k g3 e=ai (vI o) λz=>ai (k b e) (Qi o k A):=by
 have:Qi o k A=λa5=>match a5 with
  | .aq v=>aq cv
  | .next pG=>bu o k A pG
  | .bG pG=>bu o k A pG:=by funext a5;cases a5<;>rfl
 rw[this];rfl
theorem Rh e9 e_ g2 cQ(a:ai (bu bd bT g3 j) a9 m=g p):bd m/\∃rb,bT b j m=g rb/\C7 p rb kr (λj m=>ai g4 a9 m=g p):=by rw[aiD,w5] at a;obtain ⟨dG,a⟩:=BS a;rw[w5] at a;obtain ⟨rb,G,W,aK⟩:=F8 a;exact ⟨dG,rb,G,λj J t=>W _ J t,λj J t=>W _ J t,λv J t=>W _ J t,aK⟩
theorem Ri e9 e_(a:ai (bu bd bT [] j) a9 m=g p):bd m/\kn j m=g p:=by have a:ai (ai (vI bd) λz=>aq gX) a9 m=g p:=a;rw[w5] at a;exact BS a
theorem aiE eY e9 e_ cQ{bS:a2}{t tt:aW}{am:aS->Prop}{m5:a0->aS->Prop}{E':a0->aS->Prop} e2(bf:l6 bS t tt aZ e c bd A)
  (a:ai g4 a9 m=g p)(qm:tt=true->uS L=true)(b6:∀v∈aZ,bz.ao.ak<=v)(BU:∀v∈aZ,v∉r)(dF:∀D tk,q8 s x r n d kM bz j e m D->kn j m=g p->am b0)
  (aU:∀b l' H rb D tk,A=b::l'->q8 s x r n d kM bz j e m D->jG e D b H->l6 bS t tt aZ e D bd l'->bT b j m=g rb->C7 p rb kr (λj m=>ai (bu bd bT l' j) a9 m=g p)->m5 H b0):
  aJ az.I x (pyNext g5) (λR cb=>match R with|none=>am cb|g v=>aJ az.I x (letOwnedTupleGo L g5 v) (λz s'=>m5 v s') E' cb) E' cT:=by
 have hd2:∀v∈aZ,∀R,c.cm v=g R->2<=hB R.data:=λv ap R bm=>(bf.fH v ap).2.2.ah λo' bs=>E.fC (a_.g.bn (bs.1.symm.aI bm)▸bs.2.symm);have up:∀{D},mY aZ e c e D->aR e m D->q8 s x r n d kM bz j e m D:=λb o=>⟨C.y.mv b.mv hd2,C.i.mv bf.tU b.mv hd2,C.tm.zv b λk av ap=>BU k ap av,o,C.b.CQ b b6⟩;have dG:bd m:=by
  cases A with
  |bN=>exact (Ri a).1
  |bi b A=>exact (Rh a).1
 refine bf.next (h:=cT) C.y.bK C.o dG qm (λa6 D tk b o=>dF D tk (up b o) (Ri g6).2) λb l' H D tk a6 xv o rv is'=>?_
 exact (Rh g6).2.ah λrb K=>aU b l' H rb D tk a6 (up xv o) rv is' K.1 K.2
noncomputable def Od g7 g8 g9 dn eC g_ ha(bS:a2)(t tt:aW)(aZ:f a2)(bd:jE->Prop)(dr:f jD->jL->jE->Prop) hb hc:Prop:=
 ∃j e m c tk A,s'=cT/\am=A.aj+1/\q8 s x r n d kM h.Y j e m c/\l6 bS t tt aZ e c bd A/\dr A j m
end
theorem acS{L bg:aX} e3 bD{tf:aW}(c6:uw L)(htf:tf=true->uS L=true)(aU:qN s N n false tf bg) d3 dZ:ni s N n (.For L bg k [] aH):=by
 refine bQ;intro ad x d a1 r j e m h kn kr l5 p ab Z y aw i tm o U F jK;have U:vP eO eP (λB=>ai (bu B.c5 hd B.dI j) a9) m=g p:=U;refine wpAny_For (aU.aQ y i o U gs jK.bH) λb=>bL d b;have BU:∀v∈aZ,v∉r:=λv ap aO=>(tm v aO).2.2.ah λR bs=>aF gu (E.cH.bp (b6 v ap));refine codeAny_forLoop_any (Od s x r n d e h bS t tt aZ B.c5 λA j m=>ai he a9 m=g p) ?_ (B.dI.aj+1) ⟨j,j9,aE,w,t1,B.dI,rfl,rfl,⟨y.ext T,i.ext T,tm.ext T,af,T.H r⟩,bf,G⟩;clear G bf hgd af T U y i tm aU bL;intro am s' dE;obtain ⟨MM,lI,σ2,O,t2,A,rfl,rfl,C,bf,a⟩:=dE;refine aiE C bf a (λq=>htf (qm q)) b6 BU (λar t3 pX aK=>eA (F.next MM lI σ2 ar t3 pX.b pX.o pX.i aK)) λb l' H rb ar t3 a6 pX rv B6 bj a3=>?_;clear C bf a;refine Ju (h:={h with Y:=ar,bq:=t3}) pX.y.bK pX.i pX.tm pX.o rv c6 bj λatk hD t4 z z x4 mV fp bt=>?_;have Oq:=pX.H x4 mV fp;have E8:=B6.en pX.tm x4 BU λq=>ft_ hf;clear pX rv B6 bj x4;exact SR (h:=h) av aw jK o.b4 Oq bt a3 (λMN vf yg bv t5 HU x5 qQ=>
   have inv:∃y,y<A.aj+1/\Od s x r n d e h bS t tt aZ B.c5 (λA j m=>ai he a9 m=g p) y hg:=
    ⟨l'.aj+1,a6▸E.es _,MN,vf,yg,bv,t5,l',rfl,rfl,HU,E8.en Oq.tm x5 BU (λq=>ft_ hf),qQ⟩
   hh) λv H vf yg bv t5 x5 rC rv qQ=>F.aq v H vf yg bv t5 x5 rC rv qQ
noncomputable def Qj hi hj hk:jI->I jI
 | .aq v=>aq cv
 | .next e=>lZ l k K e
 | .bG e=>lZ l k K e
noncomputable def Gi hi hj hk d4:aW->I jI
 |false=>aq hl
 |true=>ai hm (Qj l k K)
theorem arq d5 d6 fa e8:lZ l k hn e=ai (l e) (Gi l k K e):=by
 have c:Qj l k K=λa5=>match a5 with
  | .aq v=>aq cv
  | .next P=>lZ l k K P
  | .bG P=>lZ l k K P:=by funext a5;cases a5<;>rfl
 have:Gi l k K e=λL=>match L with
  |false=>aq hl
  |true=>ai hm λa5=>match a5 with
   | .aq v=>aq cv
   | .next P=>lZ l k K P
   | .bG P=>lZ l k K P:=by
  funext L
  cases L with
  |false=>rfl
  |true=>unfold Gi;rw[c]
 rw[this];rfl
theorem aro d5 d6 e8 bP{p:bE jD jI×jE}(a:lG l k e m=g p):∃K,lZ l k K e m=g p:=by
 unfold lG at a
 split at a
 ·exact ⟨_,a⟩
 ·cases a
noncomputable def arl e7 dn g0 d4:I aW:=kg N n L e λv=>jY v aq
noncomputable def ark e7 dn g1 d4:I jI:=lD N n k e e4 e5 λP=>aq e6
mutual
section
variable {x:cz}{r aZ:f a2}{d:a4}{kM:jV}{j:jL}{m:jE}{ad:Type}{p:bE jD ad×jE}{kn:jL->I ad}{kr:jD->I ad}{h:aS}
theorem ars d5 d6 fa(a:ai (lZ l k hn j) a9 m=g p):∃rc,l j m=g rc/\(∀M J,rc=cS->p=cS)/\(∀J,rc=(.S false,J)->kn j J=g p)/\
  ∀J,rc=(.S true,J)->∃rb,k j J=g rb/\C7 p rb kr (λj m=>ai (lZ l k K j) a9 m=g p):=by
 rw[arq,w5] at a;obtain ⟨rc,G,W,aK⟩:=F8 a;refine ⟨rc,G,aK,λJ t=>W _ J t,λJ t=>?_⟩;have bj:=W _ J t;unfold Gi at bj;dsimp only at bj;rw[w5] at bj;obtain ⟨rb,fn,bt,qQ⟩:=F8 bj;exact ⟨rb,fn,λj J t=>bt _ J t,λj J t=>bt _ J t,λv J t=>bt _ J t,qQ⟩
theorem art d5 d6{cA:jI->I ad}(a:ai (lG l k j) cA m=g p):∃am,ai (lZ l k am j) cA m=g p:=by
 unfold ai at a;cases aO:lG l k j m with
 |none=>rw[aO] at a;exact ns_ a
 |g r'=>obtain ⟨am,G⟩:=aro aO;rw[aO] at a;refine ⟨am,?_⟩;unfold ai;rw[G];exact a
noncomputable def O2 g7 g8 g9 dn eC g_ ha(dr:E->jL->jE->Prop) hb hc:Prop:=
 ∃j e m c tk,s'=cT/\q8 s x r n d kM h.Y j e m c/\dr am j m
end
theorem ac1 eY e3 bD gC d3:ni s N n (.While L k [] aH):=by
 refine bQ;intro ad x d a1 r j e m h kn kr l5 p ab Z y aw i tm o U F jK;obtain ⟨am,U⟩:=art (U:ai (lG ho hp j) a9 m=g p);refine wpAny_While (codeAny_whileLoop (O2 s x r n d e h λam j m=>ai hq a9 m=g p) ?_ am ⟨j,e,m,h.Y,h.bq,rfl,⟨y,i,tm,o,.refl _ _ _⟩,U⟩);clear U y i tm;intro am s' dE;obtain ⟨MM,lI,σ2,O,t2,rfl,C,a⟩:=dE;cases am with
 |zero=>exact (F8 a).ah λz K=>ns_ K.1
 |succ am=>
  obtain ⟨rc,G,W,aK,bj⟩:=ars a;clear a;refine c6.aQ (h:=hr) C.y C.i C.o G (λl c' qK σ3 ar t3 x3 bJ rc' bt=>?_) (r6.bH (jK.eu (dQ:=t2) o.b4 aw C.b W C.y));cases rc';have pX:=C.a x3 bJ;have bt:rc=(.S l,σ3):=(a_.g.bn bt).symm;clear C x3 G;cases l with
  |false=>exact eA (F.next MM qK σ3 ar t3 pX.b pX.o pX.i (aK _ bt))
  |true=>
   obtain ⟨rb,qQ,a3⟩:=bj _ bt;exact SR (h:=h) av aw jK o.b4 pX qQ a3 (λMN vf yg bv t5 HU x5 qQ=>
    have inv:∃y,y<am+1/\O2 s x r n d e h (λam j m=>ai hq a9 m=g p) y hg:=⟨am,E.es am,MN,vf,yg,bv,t5,rfl,HU,qQ⟩
    hh) λv H vf yg bv t5 x5 rC rv qQ=>F.aq v H vf yg bv t5 x5 rC rv qQ
end
end
mutual
section
open bF.cU bF.cY
mutual
section
variable {s:E}{N:Tb}{n:f bO}
inductive Az:f aX->Prop
 |bN:Az []
 |bi (b:aG) (F:b2) {X:f aX}:Az X->Az (.cW b F::X)
theorem qM.all cx(c:qM X):Az X:=by
 induction c with
 |two=>exact .bi _ _ ht
 |dP=>exact .bi _ _ (.bi _ _ ht)
theorem al4 hu hw cx(c:Az X):(X.cl i).aj<=X.aj/\((X.cl i).aj=X.aj->X.cl i=X.b5 b9):=by
 induction c with
 |bN=>exact ⟨E.ep _,λz=>rfl⟩
 |@bi b F X _ ih=>
  rcases one b F with a|a
  ·rw[f.filterMap_cons_some a];exact ⟨E.succ_le_succ ih.1,λc=>ck (b::·) (ih.2 (E.succ.bn c))⟩
  ·rw[f.filterMap_cons_none a];exact ⟨E.dJ ih.1,λc=>aF (c▸ih.1) (E.not_succ_le_self _)⟩
theorem afD{Q k l bs:E}(c:¬((Q !=k||l !=bs)=true)):Q=k/\l=bs:=by have c:=aW.or_eq_false_iff.mp (aW.eq_false_iff.bp c);exact ⟨fh.mp c.1,fh.mp c.2⟩
theorem ajJ{α:Type}{ba:α->Prop}{q M u:α}{dx ci cj dy BE:Prop}{_:cV dx}{_:cV ci}{_:cV cj}{_:cV dy}{_:cV BE}(ax:ba q)(bv:¬BE)(c:¬cj->ba M):ba (if dx then q else if ci then q else if cj then q else if dy then q else if BE then u else M):=by
 by_cases Q:dx
 ·rw[bB Q];exact ax
 ·rw[bA Q];by_cases Q:ci
  ·rw[bB Q];exact ax
  ·rw[bA Q];by_cases Q:cj
   ·rw[bB Q];exact ax
   ·rw[bA Q];by_cases k:dy
    ·rw[bB k];exact ax
    ·rw[bA k,bA bv];exact c Q
noncomputable def Bj(X:f aX)(y:cX hx):Prop:=y=ay none\/(y=ay (g (X.b5 b9))/\(X.b5 b9).c1.aj=(X.b5 b9).aj)
theorem apE hu cx hw db(c:¬(((X.cl i).aj !=X.aj||(X.cl i).c1.aj !=(X.cl i).aj)=true)):Bj X (ay (g (X.cl i))):=by have c:=afD c;have a:=(al4 one bW.all).2 c.1;exact .bX ⟨ck (λA=>ay (g A)) a,a▸c.2⟩
theorem ajI{F:aW} aV:fL=g b\/fL=none:=by
 cases F with
 |true=>exact .bM rfl
 |false=>exact .bX rfl
theorem apF{X vs:f aX}{Q k:E}{pa pb:b2} br(aA:vs.all fM=false) db:Bj X (cq eD (.ch vs k pb) d):=
 ajJ (ba:=Bj X) fN (aA▸aW.fq) λc=>apE (λz z=>ajI) bW c
theorem apD{ba:cX hx->Prop} cx{Q:E}{pa:b2} br gF(q:ba (ay none))(c:∀vs k F,a= .ch vs k F->ba (cq eD (.ch vs k F) d)):ba (cq eD a d):=by cases a<;>first|exact q|exact c _ _ _ rfl
theorem ahN f_(c:([b,M]:f aG).c1.aj=2):b≠M:=by rintro rfl;simp [f.dA] at c
theorem ahO{b M q:aG}(c:([b,M,q]:f aG).c1.aj=3):b≠M/\b≠q/\M≠q:=by
 refine ⟨?_,?_,?_⟩
 ·rintro rfl;by_cases ax:q=b<;>simp [f.dA,ax] at c
 ·rintro rfl;by_cases ax:M=b<;>simp [f.dA,ax] at c
 ·rintro rfl;by_cases ax:M=b<;>simp [f.dA,ax] at c
theorem CM cd br dh cc d0 bP cR aV eK dS{v:jD}{H:a0} fP dm eU fQ eV(aP:lk n b=g dc)(rv:jG e h.Y v H)
  (c:∀D tk,kK r e h.Y e D->ds r e D->aR e m D->FR r n d (j.set B (g v)) e D->ab () b0):aJ az.I x (c0 d b H) ab Z h:=
 wpAny_bindName (i.store L o aP rv λD tk z T af bI=>c D tk T (L.lV T) af bI)
theorem an7 cO cd br dh cc d0 bP cR cx cQ eL fR cP fP dm eU fQ eV
  (rv:jR e h.Y A ws) db(bK:(X.b5 b9).c1.aj=(X.b5 b9).aj) fS
  (c:∀k7 D tk,kK r e h.Y e D->aR e m D->FR r n d k7 e D->K k7 m=g p->ab () b0):
  aJ az.I x (dw ((X.b5 b9).dM.bC λs=>c0 d s) ws.dM) ab Z h:=by
 induction bW with
 |two b F M t=>have hxy:=ahN (b:=b) (M:=M) bK;obtain ⟨Q,k,rfl,a⟩:=Gn a;obtain ⟨u,v,rfl,r1,r2⟩:=rv.two;obtain ⟨B,ee,aU,_,a⟩:=Af a;obtain ⟨bo,fg,co,_,a⟩:=Af a;have hij:B≠bo:=λq=>hxy (i.bn b M B eE (by rw[co,q];rfl));rw[f.dN _ _ hij] at a;show aJ az.I x (do fA _ (c0 d M _);dw _ _) ab Z h;refine as (da (CM i L o co r2 λw t1 T Ao af bI=>?_));refine as (da (CM (h:=bR) bI Ao af aU (r1.lV L T) λO t2 x2 Vb aM bk=>?_));exact cr (c _ O t2 eF aM bk a)
 |dP b F M t q u=>obtain ⟨hxy,hxz,hyz⟩:=ahO (b:=b) (M:=M) (q:=q) bK;obtain ⟨Q,k,l,rfl,a⟩:=Gj a;obtain ⟨u,v,H,rfl,r1,r2,r3⟩:=rv.dP;obtain ⟨B,ee,aU,_,a⟩:=Af a;obtain ⟨bo,fg,co,_,a⟩:=Af a;obtain ⟨y,hA,bV,_,a⟩:=Af a;have hij:B≠bo:=λH=>hxy (i.bn b M B eE (by rw[co,H];rfl));have ajo:B≠y:=λH=>hxz (i.bn b q B eE fT);have ajt:bo≠y:=λH=>hyz (i.bn M q bo (by rw[co];rfl) fT);rw[f.dN _ _ ajt,f.dN _ _ ajo,f.dN _ _ hij] at a;show aJ az.I x (do fA _ (c0 d q _);dw _ _) ab Z h;refine as (da (CM i L o bV r3 λw t1 T Ao af bI=>?_));refine as (da (CM (h:=bR) bI Ao af co (r2.lV L T) λO t2 x2 Vb aM bk=>?_));refine as (da (CM (h:=hr) bk Vb aM aU ((r1.lV L T).lV Ao x2) λar t3 x3 atb bJ dB=>?_));exact cr (c _ ar t3 ((T.aI x2).aI x3) bJ dB a)
theorem aip gG{ns:f aG} bD cd br cR eZ dm dl(aO:cq [L] a d=ay (g ns))
  (c:aJ az.I x gI (λv h=>aJ az.I x (unpackItems v ns.aj none) (λA h=>aJ az.I x (dw (ns.dM.bC λs=>c0 d s) A.dM) (λz h=>ab .next h) Z h) Z h) Z h):aJ az.I x gJ ab Z h:=by
 rw[ec];refine as (eB (as (cL gK (as (cK c (λv cb c=>?_) λz z q=>q)))));exact as (cL aO (show aJ az.I x (do rule _;_) _ _ _ from as (wpAny_rule (as (cK c (λz z c=>as (cK c (λz z c=>cr c) λz z q=>q)) λz z q=>q)))))
theorem aoI cO cx cQ cc fR bP cP db fS:A.aj=(X.b5 b9).aj:=by
 induction bW with
 |two=>exact (Gn a).ah λz c=>c.ah λz c=>c.1▸rfl
 |dP=>exact (Gj a).ah λz c=>c.ah λz c=>c.ah λz c=>c.1▸rfl
theorem ac0 cx fa{tp aH:b2} d1 d2 dl db(ap:∀vs k F,a= .ch vs k F->vs.all fM=false):ni s N n (.dq fU a aH):=by
 refine ⟨λ{ad x d a1 r j e m h kn kr l5 p ab Z} y aw i tm o U F jK=>?_⟩;have U:kg N n a j (λv=>unpackK v λA=>CI n X A j kn) m=g p:=U;exact (apD (ba:=Bj X) a fN λz z z t=>apF (ap _ _ _ t) bW:Bj X (cq fU a d)).ah
  (λsw=>BN aA rfl sw (c.aQ y i o U (λv H j9 aE w t1 T af rv G=>Ju (h:=bR) (L:= .ch X K tp) y.bK ce dk af rv (.tup bW) G λlI O t2 z z x2 aM bk W=>F.next lI j9 aE O t2 e1 aM bk W) jK.bH))
  λsw=>aip aA sw.1 (c.aQ y i o U (λv H j9 aE w t1 T af rv G=>So (h:=bR) y.bK af rv G (λz a=>aoI bW a) λA ws O k2 x2 aM j6 W=>
   an7 (h:={h with Y:=O,bq:=t1}) (i.ext eF) (tm.ext eF) aM j6 bW sw.2 W λqK ar t3 x3 bJ dB aK=>F.next qK j9 aE ar t3 (((T.aI x2).H r).aI x3) bJ dB aK) jK.bH)
end
end
end
mutual
example _ e s c o h some h' Nat heap x List size z T k Z i wpAny_bind xs b u v a ρ q A es Value y objs j hz X Heap Q hk acc r w get? g m S wpAny ζ ref ys h2 p D E P _ _ _ _ _ _ _ _ _ _ _ d Array ac hm l C n trans hx PySem M hl c1 h1 length push wpAny_pure extBut key «at» R c2 cons hc hp f ho c3 e1 hs Addr ev hT type hS hi toks Obj Shared fs hy h₀ Builtin ha hb i1 i2 nil F Option h3 hQ g1 IsPair bnd hh hn hq update DictEntry Ext K e2 e3 elim hash hd hs₁ hto keep IsListIter h4 hf inj list map es' Int dict ds hZ h₃ toList[.T m]{x:jV}Bool IsList «by» congrArg ep he hj lst obj[by simp][by decide]Str hP hlt hsz hs₂[p+2][p+4][p+3]acc' Around SameBut cls e4 g3 if_neg in1 items le_trans lt_size t[{b with i:=g}]σ' Calls SeqAt absurd data f1 get?_update_self hR isStr pos set toArray{au:Type}(X:q6 n)(O:cl x σ b.i)[ef c e.D.l]{e:H}(a3:z.handled=none)[lo rfl]ρ' G I b1 bool call e0 e5 e6 emptyDict hit hne hv keeps lt_of_lt_of_le mpr putName[{b with i:=g,aK:=tk}][(·.as.b_ name)][p+1][q+1][.T bN]hs' SmallTypes TypeIs W a1 a3 b2 findIdx? g2 getElem?_eq_getElem hT2 hTy hat hend hes h₁ inst int it length_cons mapSeq setItem s₁ tup under[[.dQ (.Name C y) args [] pos']]{σ:jE}[(·.1)][(k',a',w')][r (eD ?_)][x++[(e.D.l+1,f e.D.l)]][bH×kN]{s U:ab B}[.T e.D.l][{bS:= .aH "list",b6:= .seq #[]}]c4 get?_push_of_some get?_update_other h5 h₂ jp listExtendWith ne_of_lt pure putK «do» pyNext sizeLine size_push storedH tk₀ units updateSeq wpAny_field wpAny_updateSeq zipWith{o:jD->ak au}[dU.eg af.M.eq name][.str name b.aK]{L:fm jD au×jE}{j C:bH}(rv:jG x b.i v M){s:k (k (bH⊕bo)×aE×B)}[.c3 ae][eD ?_][{b with i:=an,aK:=t1}]{j:bH}[{a with val:=v}][.T b.i.D.l](br:aP.D.l=p)(aI:p+5<=Q)[Ne.symm ax][.aH "list"]Call Expr IsZip Prod PyData Unit ZipApart a2 a4 after alloc base builtin codeAny d2 en fI fe field get?_push_size h0 hX hacc hfit hmin if_pos instObj keyHash le_add_right le_of_lt le_refl length_map lookIn map_cons mem_singleton ofObj ownedTupleIsFree params plain_extend_loop prog putAt setIfInBounds slot_zip_next slots step storedH_old sub_eq_zero_iff_le succ toNat wpAny_callSpecial?_slot wpAny_holding wpAny_ite_split(name:bH)(bc:bo)[λj C=> .c3 [j,C]]{b:aM}{I Y:B->aM->Prop}{args:k dR}(ai:oj n G j=f .bl)[Gw vs]{I:dV->aM->Prop}{Y:B->aM->Prop}{u v:jD}[bH×jD](as v:B)[aL.cA j (dU.eg af.M.eq j) (.str j (b.aK+1)) M][(C,u)][aq ?_][bH⊕bo][jD×jD]{A:k eW}[.bp A][⟨?_⟩][.d2 "type.__call__" ⟨.T c::vals,[]⟩]{t:bw}(F:wY b.i m TI TO n t)(aG:∃d,b.i.N n=f d){M:B}[⟨_,F,rfl⟩]{A:k a7}[dU.eg af.M.eq j][.aH "zip"][λS=>?_]{name:bH}[m.bg c d a](a4:min s.l U.l<=dq)[min s.l U.l]{v:B}[(aL.c0 (·.ap B.none))][(aL.c0 (·.pop))]{au:Result->aM->Prop}[{b with i:=e.ap dd,aK:=dt}][aL.c0 (λS=>(#[]:ab B))][by omega]Assign DecidableEq Except InstAt any_toList blt_eq bs builtinLookup_eq_fast c0 codeAny_builtin d1 ea entryOfKey entry_extend_loop eq_nil_of_length_eq_zero f2 fields fl forIn_cons forIn_nil forIn_toList getElem?_eq_none gs h6 hr ht hu ix le_of_eq length_zipWith listItems listLengthHint listSameRef loadIfAlive ne_of_gt nextOf of_decide_eq_true putName_dict rawInt reverse setAttr sizeLine_eq size_toArray slot_list_setitem storedH_new succ_le_succ succ_min_succ takerIn typeLookup typeLookup_type under_plainId wpAny_attempt wpAny_call_entry wpAny_loadPart wpAny_nextOf_list_end wpAny_nextOf_list_item wpAny_release wpAny_seqItems wpAny_specialOf{a:a7}{ws:k B}[.bl ae][k.dy eH ae L]{W y ca pos':Pos}(aO:oj n G C=f .zip)[.Name j W][.dQ gm c5 [] ca][tE n az vs](aR:ux ag n G args)[⟨λS S=>rfl,λS=>rfl⟩]{L:k a7}[⟨?_,gq⟩][pp.dZ x1][aL.cA name dA dB v][λe=>aS (by simp [e])][(A.bm c7)]{a9:Type}{es:Program}{M:World}{o:HeapKind es M a9}{s:k (a9×aE×B)}{n:Tb}(W:Post L o (jG) x b I)[j8 .bl vs][aX.f.bk ad▸a][zY n G args jF][lP n G args jF][a::L][match a.as.b_ name with|true=>dK::L|false=>a::sI name bc as v L]{o:dV->ak au}(mR:jG x b.i u nK)(e:∀b2 g tk,a8 x b.i x g->cl x b2 g->o () b2=f L->I () cB)[.T W.1]{L:k eQ}[.str j (b.aK+1)][y▸hdo][eT::L][.T ae][.cX o b0][match j4 j C with|true=>(C,v)::L|false=>eT::mK L j v][⟨.none,rfl,aq (aZ _ ajj (H.bR.a6 ..))⟩]{o k':k eV}{w a':aE}{M w':B}[c8::s][(k',a',M)][(a',w')][aR.ah a5]{ae:k jD}{w:aE}[.T w][ae.cb W v][.bl g6](fK:z.du+20<cLine)(pg:jG x b.i q zN)[.bp bn][y.symm.ah a5][EF bd]{tp ca:Pos}(e:kI ag n G a)(ax:D7 a)(aA:kI ag n G d)[e.run P az O aF (λv M j9 σ1 an t1 x1 a0 rv aC=>?_) jK.err][P.ext x1][az.ext x1][λu nK lI σ2 V t2 x2 cO mR a_=>?_][jK.err.dZ x1][wpAny_standAt c9][{b with i:=V,aK:=t2}][rv.ext x2][qt.M cJ][az.ext qt]{z:bQ}[ag+1][.T d6][.inl rfl][H.df _ a][e.D.l+1][(e.D.l+1,f e.D.l)][x2.ah x']{I:bw->aM->Prop}{m TI TO n aT aU l1 l2:aE}{k1 k2:h}{j C:B}{v:jD}{I:aX B->aM->Prop}(X:dW m TI TO aT aU l1 l2)[.T aT][.T aU](hTI:a1 b.i TI hF hG)(an:b.i.bh aT l1 k1)(V:b.i.bh aU l2 k2)(hl1:b.i.bx l1 s)(hl2:b.i.bx l2 U)[∀c d,c≠m->c≠aT->c≠aU->b.i.N c=f d->g.N c=f d][dp bu]{b0:Tok}[f_ aj.aW.ev cR aj.aW.entry_zip_next ?_ (aj.aW.args_zip_next_1 _)][d8 bu 2>>=_][dw F rfl (j:= .co false) rfl ?_][d8 bu 3>>=_][dw F rfl (j:= .T TI) rfl (r (ge hTI rfl ?_))][aQ.cH.ep bu>>=_][ajf F aG λcV E3 be=>?_][aQ.cH.fT hF>>=_][an.ar be.ar X.i1z]{aN:k eQ}[hl1.ar be.ar X.l1z][gc hX hZ ai λdi Rr bL=>aq ?_][aQ.cH.fT hG>>=_][(V.ar be.ar X.i2z).ar bL.ar X.i12.symm][(hl2.ar be.ar X.l2z).ar bL.ar X.l2i1][{bS:= .aH "tuple",b6:= .seq #[j,C]}](az:oR x e aN A)[.T a][⟨d,aA,ax⟩][be.ar _ _ am j][λhab=>b5 hab bG][.T p][.T cD][{bS:= .aH "list",bp:=none,b6:= .seq K c,ew:= #[]}]{c:aE}(o:h)[h.eh _ _]«if»[C==j]ih(o:A1 p e g)(a:e.N c=f d)[br▸H.bZ a][K.ap (.T Z)][h.dl (h.cy ik (h.bY (h.eh p 5) aI))]«in»[lo (o:=0) rfl]{K:ab B}{bc:bo}[(· -q)]{p w t Q:h}{aP:H}{res:B}(la:aP.bx w s)(lb:aP.bx t U)[.ok (.ret res)][.d2 "list.extend.loop" ⟨[.T Q,.T bN,res],[]⟩][dp cF>>=_][λfin s'=>match fin with| .done az=>au (.ok az) s'| .again c'=>c'.quiet=true/\d3 af.ak z c' au s'][λa s'=>au (.error a) s'][⟨plainId_quiet aj.aW.er _,?_⟩][h.fS Rx][.T Q]{as v:B}[(·.pop)][b.i.D.l+4][b.i.D.l+2][b.i.D.l+3][b.i.D.l+1][λS=> #[]][J c d a][lo a][lo F][lo bf](E:h)a5 cd dd dp fr:True:=x
mutual
section
open aj.b3 aj.b4
noncomputable def sI eF eG eR:k a7->k a7
 |[]=>[⟨bc,as,v⟩]
 |a::L=>match a.as.b_ name with
  |true=>dK::L
  |false=>a::sI name bc as v L
theorem Ud e_ iq iF gg gr(e:a.as.b_ name=true):sI name bc as v gI=dK::L:=by show gJ=_;rw[e]
theorem Uc e_ iq iF gg gr(e:a.as.b_ name=false):sI name bc as v gI=a::sI name bc as v L:=by show gJ=_;rw[e]
theorem Ug dD eP gO(e:j4 j C=true):mK gR j v=(C,v)::L:=by show gU=_;rw[e]
theorem Ue dD eP gO(e:j4 j C=false):mK gR j v=eT::mK L j v:=by show gU=_;rw[e]
theorem anl eF eG eR(A:k a7):(match A.cN cC with
  |f q=>A.modify q λa=>dK
  |none=>A++[⟨bc,as,v⟩])=sI name bc as v A:=by
 induction A with
 |aV=>rfl
 |aw a L ih=>
  rw[k.findIdx?_cons];cases bB:a.as.b_ name with
  |true=>rw[Ud bB];rfl
  |false=>
   rw[bV bG,Uc bB];rw[<-ih];cases bj:L.cN cC with
   |none=>simp
   |f q=>simp
theorem fV eF eG eR(c:B)(aa:aX aE)(A:ab a7)(ag:h)(sl:ab (aX B)):
  ∃n',aL.cA name bc as v ⟨c,aa,.bp A ag,sl⟩=⟨c,aa,.bp (sI name bc as v A.bt).cc n',sl⟩:=by
 rw[aL.putName_eq];unfold aL.putNameByArray;dsimp only;have:=anl name bc as v A.bt;rw[show A.bt.cN cC=A.cN cC by clear this;obtain ⟨ae⟩:=A;simp] at this;cases bj:A.cN cC with
 |none=>rw[bj] at this;dsimp only at this⊢;exact ⟨ag+1,by rw[<-this];clear this bj;obtain ⟨ae⟩:=A;simp⟩
 |f q=>rw[bj] at this;dsimp only at this⊢;exact ⟨ag,by rw[<-this];clear this bj;obtain ⟨ae⟩:=A;simp⟩
mutual
section
variable {ag:h}{n:Tb}{G:k da}{z:bQ}{b:aM}
theorem oR.put bv ch dJ hC e4 hO(rw':jG x e v M) hY e6 h5:oR x e (mK aN j v) (sI j e7 (.str j b0) M A):=by
 induction az with
 |aV=>exact .aw rw' .aV
 |@aw C u t' w' aN A w t ih=>
  have a:(⟨dU.eg af.M.eq C,.str C t',w'⟩:a7).as.b_ j=ig:=rfl;cases y:j4 j C with
  |true=>have:=n8.mp y;subst this;rw[Ug y,Ud (a.ah (beq_self_eq_true _))];exact .aw rw' t
  |false=>
   have cv:ig=false:=by rw[beq_eq_false_iff_ne];intro m;rw[n8.cz m.symm] at y;cases y
   rw[Ue y,Uc (a.ah cv)];exact .aw w ih
theorem anj(j:bH)(v:jD)(aN:k eQ):(mK aN j v).ao<=aN.ao+1:=by
 induction aN with
 |aV=>exact h.ej _
 |aw w L ih=>
  obtain ⟨C,u⟩:=w;cases y:j4 j C with
  |true=>rw[Ug y];exact h.le_succ _
  |false=>rw[Ue y];exact h.f3 ih
theorem oR.len bv ch hY e6 h5:aN.ao=A.ao:=by
 induction az with
 |aV=>rfl
 |aw _ _ ih=>exact bz h.eA ih
set_option tactic.hygienic true in
theorem aoE{a9:Frag}{j aa c:aE}{ox od:aL} e_{tk:Tok} fd e6{P:h} fg(G:a9.In b.i)(cm:fn b.i j ox c (f od))(bd:ox.bp=f aa)(X:b.i.N aa=f od)(ay:plainOver a9 c=true)
  (fJ:f5 a9 c name=f none)(a3:(clsIn a9 c).any (·.hasDict)=true)(al:(el name od).isSome=true)
  (e':(aL.cA name dA dB v od).b6= .bp A.cc P)(F:A.ao<=1000)
  (e:au (.ok (.ret .none)) {b with i:=b.i.a6 aa gu,aK:=b.aK+1}):
  d3 af.ak z (.cp (.d2 "object.__setattr__") ⟨[.T j,.str name tk,v],[]⟩) au b:=by
 refine osa_open G cm ay fJ λt=>?_;obtain ⟨iS,ax,hd'⟩:=any_some a3;have D':(b.i.a6 aa gu).N aa=f (aL.cA name dA dB v od):=
  H.b8 _ X (by generalize aL.cA name dA dB v od=d at e'⊢;obtain ⟨_,_,iT,_⟩:=d;cases e';rfl)
 obtain ⟨ai,hcl,a4,-⟩:=cm;obtain ⟨oc,Lh,F3,osl⟩:=ox;dsimp only at hcl bd;clear a4;subst hcl bd;refine r (aq (r (r (ga ai (r ((looks_clsIn G ax).here ?_))))));rw[hd'];refine aq (w:=f aa) (r (aq (r ?_)));unfold nsSet;refine r (r (wpAny_askSetting (aq (r (wpAny_mkText (r (ga X ?_)))))));unfold el at al
 split at al
 ·rename_i BL n₀ y;rw[y];dsimp only;have c:(!BL.any cC&&BL.any (·.refKey))=false:=by
   rw[<-ab.fo,<-ab.fo]
   split at al
   ·rename_i d5 bB;rw[k.any_eq_true.cz ⟨d5,k.mem_of_find?_eq_some bB,k.find?_some bB⟩];rfl
   ·split at al
    ·cases al
    ·rename_i m;rw[bw.not_eq_true] at m;rw[m,bw.and_false]
  rw[aRefKeyMayBeTheName_at,c];refine wpAny_updatePart X ?_;refine r (wpAny_lookBehind D' (by rw[e'];exact pastItsLine_dict (by rw[k.f0,fZ];omega)) ?_);exact aq e
 ·cases al
theorem aov cd bv c6 gK dC eN eO eP{nK M:B} dJ ce cf gL dE
  (a:a2 (lS u j v) o σ=f L) gM:R af.ak z (fY nK j M) I Y b:=by
 refine My a λS τ an aC=>jZ an λq aJ V=>jZ V λc ax aY=>lM aY λJ bi=>?_;have B0:σ.cb q (.cW c.1 (mK c.2 j v))=τ:=bz dT.snd (aX.f.bk bi);clear a an V aY bi;subst B0;rw[qj aJ] at mR;obtain ⟨W,rfl,ay⟩:=mR.eo;obtain ⟨d,aA,ro⟩:=O.bE ay;replace ro:lg x b.i (.cW c.1 c.2) W:=aX.f.bk (aA.symm.ah (JB ax))▸ro;obtain ⟨c,aN⟩:=c;obtain ⟨bJ,cS⟩:=bw.and_eq_true_iff.mp J;replace bJ:aN.ao<100:=h.fp.mp bJ;replace cS:mT c j nO=true:=cS;clear ax aA J aJ;revert ay
 ·refine ro.E5 (Z:=λW=>x[q]?=f W->R af.ak z (fY gN j M) I Y b) λ{w aa ob A nn} cK dX cL dY iR ay=>?_;clear ro mR;have vh:=X.attr c j cS;obtain ⟨n1,n2⟩:=PK cS;have hob:ob=ef c aa:=R4 ⟨n1,n2⟩ dX;subst hob;have ea:=X.rI.cx O.d1;have cm:fn b.i w (ef c aa) c (f ⟨.aH "dict",none,.bp A.cc nn,#[]⟩):=⟨cK,rfl,rfl,cL⟩;obtain ⟨n',tM⟩:=fV j e7 gP M (.aH "dict") none A.cc nn #[];have d7:=dY.put (j:=j) (b0:=b.aK+1) rv;have hfl:(mK aN j v).ao<=100:=h.bY (anj j v aN) bJ;refine set_plain ea cm vh.sa (aoE (b:={b with aK:=b.aK+1}) ea cm rfl cL vh.po (by unfold f5;rw[vh.aR];rfl) vh.bd ?_ (by rw[tM]) (d7.len▸h.bY hfl bG) ?_)
  ·obtain ⟨b7,fz⟩:=dY.find (j:=j);unfold el;dsimp only;cases al:lk aN j with
   |f u=>rw[al] at b7;obtain ⟨d5,b7,_⟩:=b7;rw[b7];rfl
   |none=>rw[al] at b7;rw[b7,fz];rfl
  ·have rG:=(H.b8 eS cL (by rw[tM];rfl)).ah (bz f tM);have aD:H.bR aa b.i (b.i.a6 aa eS):=H.bR.a6 ..;generalize b.i.a6 aa eS=g at rG aD⊢;have hdo:aa∈own x:=Lu ay;have had:w≠aa:=λm=>by rw[m,cL] at cK;exact nomatch bz aL.bS (aX.f.bk cK)
   have x1:a8 x b.i x g:= .own (by rw[aD.1];exact h.ej _) λt aS d a=>(aD.2 t λy=>aS gQ).ah a;exact e _ g _ x1 (O.upd ay x1 (O.baseOf λt aS d a=>(aD.2 t λy=>aS gQ).ah a) (λt aS=>aD.2 t λy=>aS (by simp [y])) (.cW ((aD.2 w had).ah cK) dX rG (d7.ext x1) hfl)) aC
end
mutual
section
variable {ag:h}{n:Tb}{G:k da}{z:bQ}{b:aM}
theorem aoz eO{ae:aE}{bX:ab B}{o:bo} hO fd eN(al:ng b.i ae bX)(d_:0<=o)(ec:o<2^63)(a4:o<bX.l)
  (aZ:∀g,ng g ae (bX.eu o.eB v)->H.bR ae b.i g->I () b1):R af.ak z (c1 gS gT v) I Y b:=by
 obtain ⟨n0,aA⟩:=al;have aG:b.cI gS "list":=⟨_,aA,rfl⟩;unfold c1;refine eD ?_;refine r (wpAny_sequenceKey aG bG ?_);refine r (eC (name:=bH.ofString "__setitem__") aG f1
  (f_ f1 aG entry_list_setitem ?_ (args_list_setitem _ _ _)))
 show R _ _ (aQ.k.listSubscript? gT>>=_) _ _ b;refine r (wpAny_listSubscript_int (fitsIndex_of d_ ec) ?_);clear ec;obtain ⟨E,rfl⟩:=bo.eq_ofNat_of_zero_le d_;have bC:E<bX.l:=fj
 have hx':bX[E]?=f bX[E]:=ab.cP bC;show R _ _ ((seqItemAt ae E>>=λL=>dm (L.bm (E,·)))>>=_) _ _ b;refine r (r (wpAny_seqItemAt aA rfl eU));rw[hx'];show R _ _ (setSeqItemAt ae E v>>=_) _ _ b;refine r (wpAny_setSeqItemAt aA rfl ?_);have ajj:ng (b.i.a6 ae (aL.c0 (·.eu E v))) ae (bX.eu E v):=⟨_,by rw[H.b8 _ aA rfl];rfl⟩
 first
  |exact r (aq (aq gV))
  |exact aq gV
theorem apt gW gX gY dF(nd:k'∉s.bm c7)(a:k'=o):ds gZ o w M=g0::s:=by cases a;have ad:s.bm (et k' M)=s:=(k.map_congr_left λC aO=>bV λm:C.1=k'=>nd (m▸k.mem_map.cz ⟨C,aO,rfl⟩)).ah (k.map_id _);rw[ey (PF (W:=g1) (s:=s) rfl),k.em,ad,show et k' M c8=g0 from ee rfl]
theorem aps gW gX gY dF(a:k'≠o):ds gZ o w M=c8::ds s o w M:=by
 have aR:=PE (W:=g1) (s:=s) a;cases a5:atKey s o with
 |none=>rw[f2 g2,f2 a5];rfl
 |f y=>rw[ey g2,ey a5,k.em,show et o M c8=c8 from bV a]
theorem KE.dn bv ch g3{o:k eV} g4 hC e4(J:qa ae=f o)(ra:jG x e dG g5)(rv:jG x e v M)
  eX dF(az:KE x e A s):∀{bn:k eW},(s.bm c7).Nodup->Mine.Internal.dn A dG v=f bn->KE x e bn (ds s o w M):=by
 induction az with
 |aV=>intro bn _ a;cases a;exact .aw J ra rv .aV
 |@aw l' k' a' v' w' A s an V aY bi ih=>
  intro bn nd a;rw[k.em,k.nodup_cons] at nd;refine Uh a (λy a=>?_) λaC y kE a=>?_
  ·rw[a,apt nd.1 (fU (Fp an J y).symm)];exact .aw an V rv bi
  ·rw[a,aps (of_decide_eq_false (Fp an J y).symm)];exact .aw an V aY (ih nd.2 kE)
mutual
section
variable {x:jV}{σ:jE}{I:dV->aM->Prop}{Y:B->aM->Prop}{P:h}{v:jD}{M zN:B}{w:aE}
theorem aoB g3{vs:k B}{E:bo}{W:h} cf(ay:x[P]?=f (w,none))(am:ng b.i w vs.cc)(av:jR x b.i ae vs)(aB:ae.ao<=lim)(pg:jG x b.i (.cX E) zN) dE(F:0<=E)(hpl:place E ae.ao=f W)
  (e:∀g tk,a8 x b.i x g->cl x (σ.cb P g7) g->I () cB):R af.ak z (c1 g5 zN M) I Y b:=by
 obtain ⟨b0,rfl⟩:=pg.ofInt;obtain ⟨kE,y⟩:=F7 hpl;have nB:E.eB=W:=y.bb (λy=>y.2) λy=>b5 F (bo.not_le.cz y.1);have bK:vs.ao=ae.ao:=av.ao.symm;have bC:E=(W:bo):=by rw[<-nB];exact (bo.toNat_of_nonneg F).symm
 have hl2:ae.ao<=1000000:=aB;refine aoz am F fj (by rw[k.f0,bK,bC];exact bo.ofNat_lt.cz kE) λg a4 aD=>?_;rw[nB,k.setIfInBounds_toArray] at a4;obtain ⟨x1,a0⟩:=O.CT (d:= .bl g6) ay aD λx1=> .bl a4 ((av.cb W rv).ext x1) (by rw[k.length_set];exact aB);exact e g b.aK x1 a0
theorem aow{A bn:k eW}{q:jD}{W:aE×aX aE} g8 cf(ay:x[P]?=f W)(ro:lg x b.i eY W) g9 dE(J:isKey q=true)(BY:Mine.Internal.dn A q v=f bn)(hle:bn.ao<=lim)
  (e:∀g tk,a8 x b.i x g->cl x (σ.cb P g_) g->I () cB):R af.ak z (c1 gN zN M) I Y b:=by
 obtain ⟨ae,ks,aJ,al⟩:=Fb J;rw[aJ] at pg BY;clear J aJ;cases ro with
 |vH fs am av aB=>
  cases A with
  |aV=>exact b5 rfl fs
  |aw cq A=>
   obtain ⟨str,aD⟩:=am cq (.head _);have a5:eqv [] 4 cq.1 dG=none:=by rw[aD];rfl
   exact Uh (o:=cq.1) (v:=cq.2) BY (λy S=>sn_ ha) λS y S S=>sn_ ha
 |@uJ A w s am av aB=>obtain ⟨t,vs,rfl,cn,cM,lK⟩:=pg.sF;have rk:jG x b.i dG (.T t):= .c3 cn cM lK;have nd:(s.bm c7).Nodup:=am.bb λS c=>c.bb λS c=>c.bb λS c=>c.2.2.2.2.2;refine wpAny_setItem_heap (bK:=by rw[<-av.ao];exact qo aB) (show z.du+1<cLine by omega) (jG.isKey al rk) am λg a4 aD=>?_;obtain ⟨x1,a0⟩:=O.CT (d:= .bp bn) ay aD λx1=> .uJ a4 ((av.dn al rk rv nd BY).ext x1) hle;exact e g _ x1 a0
end
theorem aoA cd bv c6 gK dC eN eO{u q v:jD}{nK zN M:B} g8 cf gL g9 dE
  (a:a2 (pn u q v) o σ=f L) gM:R af.ak z (c1 nK zN M) I Y b:=by
 refine My a λS τ an aC=>jZ an λP ad V=>?_;clear a an;rw[qj ad] at mR;rcases a5:l_ σ P with _|ae
 ·rw[a5] at V;refine jZ V λA bd aY=>lM aY λJ bi=>jZ bi λbn BY dh=>lM dh λhle fH=>?_;obtain ⟨W,rfl,ay⟩:=mR.eo;obtain ⟨d,aA,ro⟩:=O.bE ay;exact aow fK O ay (aX.f.bk (aA.symm.ah hb)▸ro) pg rv J BY (h.le_of_ble_eq_true hle) λg tk x1 a0=>e _ g tk x1 a0 (by rw[show σ.cb P g_=τ from bz dT.snd (aX.f.bk fH)];exact aC)
 ·rw[a5] at V;obtain ⟨w,vs,rfl,ay,am,av,aB⟩:=O.bD mR (qz a5);refine jZ V λE bC aY=>lM aY λF bi=>jZ bi λW hpl dh=>?_;rw[qO bC] at pg;exact aoB O ay am av aB pg rv (fU F) hpl λg tk x1 a0=>e _ g tk x1 a0 (by rw[show σ.cb P g7=τ from bz dT.snd (aX.f.bk dh)];exact aC)
end
end
mutual
section
open aj.b3 aj.b4
mutual
section
variable {ag:h}{n:Tb}{G:k da}
theorem acP{d a:dR} dJ hc ce hd he hf:ni ag n G (.fk [.Attribute d j tp] a ca):=by refine eZ;intro au z env aN cJ jF x σ b kn kr l5 L I Y P hfr az tm O aF W jK;have aF:kg n G a jF (λv=>kg n G d jF λM=>a2 (lS M j v) λS=>kn jF) σ=f L:=aF;refine BN ax rfl rfl hg;rw[arm_assign_Attribute];refine r dH;refine aA.run (b:=dI) hh hi a0 aC hj hk;refine r hl;refine aov (b:=hm) X cO mR hn a_ λσ3 aY t3 x3 bU ba=>?_;replace x3:a8 lI V lI aY:=x3;have qt:=(x1.ah x2).ah x3;exact gd (W.next jF lI σ3 aY t3 ho bU hp ba)
theorem acU{d q a:dR} hc hd he hf(aJ:kI ag n G q):ni ag n G (.fk [.Subscript d q tp] a ca):=by refine eZ;intro au z env aN cJ jF x σ b kn kr l5 L I Y P hfr az tm O aF W jK;have aF:kg n G a jF (λv=>kg n G d jF λM=>kg n G q jF λE=>a2 (pn M E v) λS=>kn jF) σ=f L:=aF;refine BN ax rfl rfl hg;rw[arm_assign_Subscript];refine r dH;refine aA.run (b:=dI) hh hi a0 aC hj hk;refine r dH;replace x2:a8 j9 an lI V:=x2;have kU:=x1.ah x2;refine aJ.run (b:=hm) (P.ext kU) (az.ext kU) cO a_ (λE asL qK σ3 aY t3 x3 bU an_ ba=>?_) (jK.err.dZ kU);replace x3:a8 lI V qK aY:=x3;refine r hl;have mh:=kU.ah x3;refine aoA (b:={b with i:=aY,aK:=t3}) P.JA bU (mR.ext x3) an_ (rv.ext (x2.ah x3)) ba λMO bi t4 x4 mV bT=>?_;replace x4:a8 qK aY qK bi:=x4;have qt:=mh.ah x4;exact gd (W.next jF qK MO bi t4 ho mV hp bT)
end
end
mutual
section
open aj.b3 aj.b4
mutual
section
variable {ag:h}{n:Tb}
theorem kR.c4 hq bv ch(P:kR hr z x e)(c:aE)(vals:k B):kR ag (z.c4 e0) x e:=by
 obtain ⟨aN,w,t⟩:=P.iV;have aa:(z.c4 e0).depth=z.depth+1:=rfl;have u:(z.c4 e0).du=z.du+1:=rfl;refine ⟨P.bd,?_,?_,aN,w,t⟩
 ·have:=P.iU;rw[aa];omega
 ·have:=P.un;rw[u];omega
theorem aga{c d6:aE}{P:k jD->ak jD} ce(ad:makesIn af.a9 c=true)(aJ:findIn af.a9 (.T c) "__init__"=f (f hs))(bj:typeIn af.a9 hs=f (.aH "function"))(n1:c≠38)(n2:c≠39)(aW:oH ag d6 P):
  oH hr c (k9 c P):=by
 refine eZ;intro z x σ b vs ws L I rP O rv a W jK;unfold k9 at a;obtain ⟨_,a⟩:=qw a;obtain ⟨e,fG,aa,b0,os⟩:=b;have G:=X.rI.cx O.d1;refine make_core (makes_of G ad) (looks_findIn G aJ) (λself=>bind_fn G self bj) ht ?_;replace O:cl x σ e:=O;have o:∀t d,e.N t=f d->((e.ap ct).ap cg).N t=f d:=λt d a=>H.df _ hu;have F:((e.ap ct).ap cg).D.l=e.D.l+2:=by rw[H.dr,H.dr]
 have ai:((e.ap ct).ap cg).N hv=f cg:=by heap_get
 have bd:((e.ap ct).ap cg).N e.D.l=f ct:=by heap_get
 generalize ((e.ap ct).ap cg)=V at o F ai bd⊢;have x2:a8 x e c_ V:=⟨⟨_,rfl,by simp [own]⟩,by rw[F];omega,λt d a S=> .same (o t d a)⟩;have hi':vO c e.D.l cg:=by
  unfold vO
  split
  ·exact b5 rfl n1
  ·exact b5 rfl n2
  ·rfl
 have cO:cl c_ (σ++[.cW c []]) V:=
  O.snoc x2 (λt d a=>o t d (O.d1 t d a)) (λw aR=>by obtain ⟨d,a⟩:=O.alive aR;rw[a,o w d a]) bF bF (.cW ai hi' (A:=[]) (ag:=0) bd .aV bF)
 have rx:jG c_ V (.bE σ.ao) (.T hv):= .bE (W:=hw) (by rw[<-O.len];simp);refine aW.cps (b:=⟨V,fG,aa,b0,os⟩) ((rP.ext x2).c4 c ws) cO (.aw rx hn) a (λv M ck b2 g tk x' g' CH e'=>?_) λq ck b2 g tk fv fI x' g' fB=>?_
 ·replace x':a8 c_ V ck g:=x';cases v<;>try (cases e';done)
  cases CH;exact ⟨rfl,W _ _ ck b2 g tk hx g' (rx.ext x') e'⟩
 ·replace x':a8 c_ V ck g:=x';refine jK q ck b2 g tk fv fI hx g' (fB.older ?_);show e.D.l<=V.D.l;rw[F];omega
end
end
mutual
section
open aj.b3 aj.b4
noncomputable abbrev wY(e:H)(m TI TO n:aE)(t:bw):Prop:=
 e.N m=f {bS:= .aH "zip",bp:=none,b6:= .fA #[fW n,.co t,.co false,.T TI,.T TO],ew:= #[]}
mutual
section
variable {z:bQ}{b:aM}{Y:B->aM->Prop}
theorem ajf{m TI TO n:aE} e1 hy e2 e3(e:∀g,wY g m TI TO n true->H.bR m b.i g->I false b1):
  R af.ak z (aQ.cH.ep bu) I Y b:=by
 obtain ⟨oT,aG⟩:=aG;unfold aQ.cH.ep;refine r (dw F rfl (j:=fW n) rfl ?_);have cq:((n:bo)).eB=n:=rfl;have li:∀{Q':aX aL->aM->Prop},Q' (f oT) b->R af.ak z (fR n) Q' Y b:=λ{Q'} y=>by intro Γ W _;show Q' (b.i.N n) b;rw[aG];exact y
 show R af.ak z (do
  if (<-fR n).isNone then return true
  if (<-d8 bu 1) != .co true then setField bu 1 (.co true)
  return false) I Y b
 refine r (li ?_);rw[bV bF];refine r (dw F rfl (j:= .co t) rfl ?_);cases t with
 |true=>rw[bV bG];exact aq (e b.i F (H.bR.refl _ _))
 |false=>rw[ee bG];exact r (wpAny_setField_rec F bF λg hz' cG=>aq (e g hz' cG))
theorem ajg hz hA e1 db hB hD hE
  e2 e3 hH
  hI hJ hK hL(ai:s[k1]?=f j)(aO:U[k2]?=f C)
  (aZ:∀g,wY g m TI TO n true->g.bh aT l1 (k1+1)->g.bh aU l2 (k2+1)->a1 g b.i.D.l j C->
   hM->I (f dL) b1):
  R af.ak z hN I Y b:=by
 have cR:b.cI bu "zip":=e5;unfold dp;refine r (f9 (eC (name:=wW) cR aj.aW.ev
  hP))
 show R _ _ hQ _ _ _;refine r hR;show R _ _ hS _ _ _;refine r hT;show R _ _ hU _ _ _;refine r hV;replace be:H.bR m b.i cV:=be;rw[bV bF];refine r ?_;rw[<-ab.fE];simp only [k.fC,k.fD];have asA:=be.ar _ _ X.TIz hTI;refine r c9;show R _ _ hW _ _ _;refine r h0;refine aq ?_;refine r c9;show R _ _ h1 _ _ _;refine r (gc h2 h3 aO λbs aiY ql=>aq ?_);refine aq eU;refine r (wpAny_newTuple ?_ (by simp [fZ]));refine aq ⟨_,rfl,aq ?_⟩;have bK:bs.D.l=b.i.D.l:=by rw[ql.1,bL.1,be.1]
 have k3:∀c d,c≠m->c≠aT->c≠aU->b.i.N c=f d->bs.N c=f d:=λc d am av aB a=>ql.ar _ _ aB (bL.ar _ _ av (be.ar _ _ am a));have Kn:wY bs m TI TO n true:=ql.ar _ _ X.i2z.symm (bL.ar _ _ X.i1z.symm E3);have up:∀c d,bs.N c=f d->(bs.ap h4).N c=f d:=λc d a=>H.df _ a;have new:a1 (bs.ap h4) b.i.D.l j C:=by rw[<-bK];exact H.d9 _ rfl
 show I (f (.T bs.D.l)) _;rw[bK];exact aZ _ (up _ _ Kn) ((Rr.ar ql.ar X.i12).at λd a=>up _ d a) (aiY.at λd a=>up _ d a) new λc d am av aB a=>up c d (k3 c d am av aB a)
theorem aje hz hA e1 db hD ci hE
  e2 e3 hH
  hI hJ hK hL(cT:s[k1]?=none\/U[k2]?=none)
  (aZ:∀g,hM->I none b1):R af.ak z hN I Y b:=by
 have cR:b.cI bu "zip":=e5;have stop:∀g a,(∃d,g.N a=f d/\d.bS= .aH "StopIteration")->(I none b1)->
   R af.ak z (do if<-isInstance h6 (.aH "StopIteration") then dm none else throw h6) I Y b1:=λg a h7 y=>
  r (wpAny_isInstance (n:="StopIteration") (t:=true) h7 isSubtype_stop (aq y))
 unfold dp;refine r (f9 (eC (name:=wW) cR aj.aW.ev
  hP))
 show R _ _ hQ _ _ _;refine r hR;show R _ _ hS _ _ _;refine r hT;show R _ _ hU _ _ _;refine r hV;replace be:H.bR m b.i cV:=be;rw[bV bF];refine r ?_;rw[<-ab.fE];simp only [k.fC,k.fD];refine r c9;show R _ _ hW _ _ _;cases ai:s[k1]? with
 |none=>refine r (gb a3 hX hZ ai λdi a bL bB=>?_);exact stop di a bB (aZ di λc d am av S j=>bL _ _ av h8)
 |f j=>
  have aO:U[k2]?=none:=by rcases cT with e|e;rw[ai] at e;cases e;exact e
  refine r h0;refine aq ?_;refine r c9;show R _ _ h1 _ _ _;refine r (gb a3 h2 h3 aO λbs a ql bB=>?_);exact stop bs a bB (aZ bs λc d am av aB j=>ql _ _ aB (bL.ar _ _ av h8))
end
end
mutual
section
open aj.b3 aj.b4
set_option maxRecDepth 100000
theorem arX:f6 e8 "__len__"=dm none:=by rw[f7,fr];kernel_rfl
theorem arW:f6 e8 "__length_hint__"=dm none:=by rw[f7,fr];kernel_rfl
mutual
section
variable {z:bQ}{b:aM}{Y:B->aM->Prop}
theorem arQ{m:aE} hy(aG:b.cI bu "zip")(e:I true b):R af.ak z (aQ.k.fP bu) I Y b:=by unfold aQ.k.fP;refine r (gf aG arX ?_);refine eE h9 e9;refine eE h9 e9;refine r (gf aG arW ?_);exact aq e
structure Br(p w t Q:h)(s U:ab B)(aP e:H)(q:h)(K:ab B):Prop where
 bg:∀c d,aP.N c=f d->e.N c=f d
 aT:e.bh p w q
 aU:e.bh cD t q
 ti:a1 e bM h_ ia
 st:(dS e bN bM bO .none/\∃j C,a1 e bO j C)\/∃(n:h) (y:bw),wY e bN bM bO n y/\(∃d,e.N n=f d)/\n≠Q/\p+5<=n
 bD:∃c,e.N Q=f ib
 sz:K.l=q
 cY:∀(E:h) (v:B),K[E]?=f v->∃(Z:h) (j C:B),v=B.T Z/\p+5<=Z/\Z≠Q/\s[E]?=f j/\U[E]?=f C/\a1 e Z j C
structure yP(p Q:h)(s U:ab B)(aP e:H)(q:h)(K:ab B):Prop where
 bg:∀c d,aP.N c=f d->e.N c=f d
 bD:∃c,e.N Q=f ib
 sz:K.l=q
 cY:∀(E:h) (v:B),K[E]?=f v->∃(Z:h) (j C:B),v=B.T Z/\p+5<=Z/\Z≠Q/\s[E]?=f j/\U[E]?=f C/\a1 e Z j C
theorem rJ ic{p:h}(e:c<p) id:c≠p+o:=h.dl (h.cy e ie)
theorem qx{p c:h}(e:p+5<=c) id(J:h.blt o 5=true):c≠p+o:=h.fS (h.cy (h.add_lt_add_left (h.fp.mp J) p) e)
noncomputable def A1(p:h)(e g:H):Prop:=∀c d,c≠p+4->c≠p+3->c≠p->c≠p+1->e.N c=f d->g.N c=f d
mutual
section
variable {p w t Q q:h}{s U K:ab B}{aP e g h'':H}{c:aE}{d:aL}
theorem A1.lo ii(ax:c<p) ij:g.N c=f d:=o c d (rJ ax 4) (rJ ax 3) (rJ ax 0) (rJ ax 1) a
theorem A1.aJ ii(ax:p+5<=c) ij:g.N c=f d:=o c d (qx ax 4 rfl) (qx ax 3 rfl) (qx ax 0 rfl) (qx ax 1 rfl) a
theorem Br.sQ(m:Br p w t Q s U aP e q K)(J:A1 p e g) dM dN:yP p Q s U aP g q K:=by refine ⟨λc d a=>J.lo ik fa,m.bD.bb λc a=>⟨c,J.aJ aI a⟩,m.sz,λE v a=>?_⟩;obtain ⟨Z,j,C,aC,a_,ba,bT,cr,cs⟩:=m.cY E v a;exact ⟨Z,j,C,aC,a_,ba,bT,cr,J.aJ a_ cs⟩
theorem yP.ap{Z:h} hB{n:h}{y:bw}(m:yP p Q s U aP g q K) dM dN(j1:g.bh p w cE)(j2:g.bh cD t cE)(ti:a1 g bM h_ ia)(dj:a1 g Z j C)
  (bI:p+5<=Z)(Rw:Z≠Q)(ai:s[q]?=f j)(aO:U[q]?=f C)(t1:wY g bN bM bO n y)(t2:∃d,g.N n=f d)(t3:n≠Q)(t4:p+5<=n)(up:∀c d,c≠Q->g.N c=f d->h''.N c=f d)
  (bD:∃c,h''.N Q=f {bS:= .aH "list",bp:=none,b6:= .seq il c,ew:= #[]}):Br p w t Q s U aP h'' cE il:=by
 have lo:∀{o},h.blt o 5=true->p+o≠Q:=λ{o} J=>(qx aI o J).symm;refine ⟨λc d a=>up c d im fa,j1.at λd a=>up _ d io a,j2.at λd a=>up _ d cj a,up _ _ cj ti,.inr ⟨n,y,up _ _ cj t1,t2.bb λd a=>⟨d,up _ _ t3 a⟩,t3,t4⟩,bD,by rw[ab.dr,m.sz],λE v a=>?_⟩;rw[ab.getElem?_push] at a;by_cases bC:E=K.l
 ·rw[ee bC] at a;rw[bC,m.sz];exact ⟨Z,j,C,(aX.f.bk a).symm,bI,Rw,ai,aO,up _ _ Rw dj⟩
 ·rw[bV bC] at a;obtain ⟨Z,j,C,aC,a_,ba,bT,cr,cs⟩:=m.cY E v a;exact ⟨Z,j,C,aC,a_,ba,bT,cr,up _ _ ba cs⟩
theorem arN(aR:w<p)(aS:t<p):dW bN bM bO p cD w t:=
 ⟨mq p 2 4 rfl,mq p 3 4 rfl,mq p 0 4 rfl,mq p 1 4 rfl,mq p 2 3 rfl,mq p 2 0 rfl,mq p 2 1 rfl,mq p 3 0 rfl,mq p 3 1 rfl,mq p 0 1 rfl,rJ aR 4,rJ aR 3,rJ aR 0,rJ aR 1,rJ aS 4,rJ aS 3,rJ aS 0,rJ aS 1⟩
end
theorem ang ip fd(e:K.l<dq):(K.ap v).l<=dq+1:=h.bY (h.fM (ab.dr v)) (h.f3 (h.ei e))
theorem alN{q P ag:h}(e:min P ag -q=0):P<=q\/ag<=q:=(h.le_total P ag).imp (λy=>h.ez.mp ((bz ir (h.min_eq_left y)).symm.ah e)) λy=>h.ez.mp ((bz ir (h.min_eq_right y)).symm.ah e)
theorem arU is db it iu fg ci dM iv iw dN fb:
  ∀(o q:h) (b:aM) (K:ab B),min s.l U.l -q=o->q<=min s.l U.l->Br p w t Q s U aP b.i q K->
  (∀g tk bP,yP p Q s U aP g fc bP->au ix cB)->
  d3 af.ak z iy au b:=by
 have X:dW bN bM bO p cD w t:=arN (la.bb λS a=>br▸H.bZ a.1) (lb.bb λS a=>br▸H.bZ a.1);intro o;induction o with
 |zero=>
  intro q b K J aJ m b9;have hin:q=min s.l U.l:=h.le_antisymm aJ (h.ez.mp J);have cT:s[q]?=none\/U[q]?=none:=(alN J).imp ab.fF ab.fF;clear J aJ;refine ft aj.aW.fx ?_;rw[bQ.f8 aj.aW.er _];show R _ z.bW iz _ _ b;have l1:b.i.bx w s:=la.at λd a=>m.bg _ d a;have l2:b.i.bx t U:=lb.at λd a=>m.bg _ d a;obtain ⟨F,x0,y0,bf⟩|⟨n,y,F,aG,_⟩:=m.st
  ·exact r (wpAny_pyNext_zip_end (z:=z.bW) a3 X F m.ti bf m.aT m.aU l1 l2 cT λg J=>aq (b9 g b.aK K (hin▸m.sQ J br aI)))
  ·exact r (aje (z:=z.bW) a3 X F aG m.ti m.aT m.aU l1 l2 cT λg J=>aq (b9 g b.aK K (hin▸m.sQ (λc d am S aB de a=>J c d am aB de a) br aI)))
 |eA o ih=>
  intro q b K J aJ m b9;have bJ:q<min s.l U.l:=h.lt_of_sub_eq_succ J;refine ft aj.aW.fx ?_;rw[bQ.f8 aj.aW.er _];show R _ z.bW iz _ _ b;have l1:b.i.bx w s:=la.at λd a=>m.bg _ d a;have l2:b.i.bx t U:=lb.at λd a=>m.bg _ d a;have fL:q<s.l:=h.cy bJ (h.min_le_left _ _);have akj:q<U.l:=h.cy bJ (h.min_le_right _ _);have ai:s[q]?=f s[q]:=ab.cP fL;have aO:U[q]?=f U[q]:=ab.cP akj;have Rx:Q<b.i.D.l:=m.bD.bb λc a=>H.bZ a;have bI:=h.bY aI (h.ei Rx);have ex:∀g n y,A1 p b.i g->g.bh p w cE->g.bh cD t cE->a1 g b.i.D.l s[q] U[q]->wY g bN bM bO n y->(∃d,g.N n=f d)->n≠Q->p+5<=n->
    R af.ak z.bW (dv Q (·.ap dL)>>=λS=>again iy)
     iA iB b1:=λg n y hk' j1 j2 dj t1 t2 t3 t4=>by
   have z':=m.sQ hk' br aI;obtain ⟨c,xg⟩:=z'.bD;have eb:K.l<dq:=m.sz.symm▸h.cy bJ a4;refine r (dx (b:=b1) xg rfl (aq iC) (h.ei eb) (ang eb));exact ih cE {b with i:=g.a6 Q (aL.c0 (·.ap (B.T b.i.D.l)))} (K.ap dL) ((h.sub_add_eq _ q 1).ah (bz h.pred J)) bJ
    (z'.ap br aI j1 j2 (hk' _ _ (mq p 2 4 rfl) (mq p 2 3 rfl) (mq p 2 0 rfl) (mq p 2 1 rfl) m.ti) dj bI iD ai aO t1 t2 t3 t4 (λc d ax a=>(H.dg _ _ dO).ah a) ⟨_,H.b8 _ xg rfl⟩) b9
  obtain ⟨F,x0,y0,bf⟩|⟨n,y,F,⟨oT,aG⟩,hT1,cQ⟩:=m.st
  ·exact r (wpAny_pyNext_zip_item (z:=z.bW) X F m.ti bf m.aT m.aU l1 l2 ai aO λg cn cM lK o9 qP afp Er=>ex g _ false Er lK o9 qP cn ⟨_,qP⟩ iD bI)
  ·exact r (ajg (z:=z.bW) X F ⟨oT,aG⟩ m.ti m.aT m.aU l1 l2 ai aO λg cn cM lK o9 qP=>ex g n true (λc d am S aB de a=>qP c d am aB de a) cM lK o9 cn ⟨oT,qP _ _ (qx cQ 4 rfl) (qx cQ 0 rfl) (qx cQ 1 rfl) aG⟩ hT1 cQ)
theorem arP is db it iu fg ci dM iv iw dN fb
  (m:Br p w t Q s U aP b.i 0 #[])(F:dS b.i bN bM bO .none)(bf:∃j C,a1 b.i bO j C)
  (b9:∀g tk bP,yP p Q s U aP g fc bP->au ix cB):
  R af.ak z.bW (aQ.k.dk iE cF res)
   iA iB b:=by
 have aG:b.cI cF "zip":=e5;unfold aQ.k.dk;refine r (wpAny_typeOf (n:="zip") aG ?_);have cv:Q≠p+4:=qx aI 4 rfl;have an:aQ.k.fQ iE cF=false:=by simp [aQ.k.fQ,cv]
 simp only [an,show (B.aH "zip"==B.aH "list")=false by decide,show (B.aH "zip"==B.aH "tuple")=false by decide,bw.or_false,bw.false_eq_true,if_false];refine r (wpAny_pyIter_zip F ?_);refine r (eD (arQ aG ?_));refine eE e9 (λe=>b5 rfl e);obtain ⟨c,xg⟩:=m.bD;refine r (wpAny_rule ?_);refine r ?_;show R _ _ (dv Q (·.ap .none)>>=λS=>dv Q iG) _ _ _;refine r (dx xg rfl ?_);have a_:=H.b8 fe xg rfl;refine dx (F:=by seq_fits) a_ rfl ?_;have ba:=H.b8 ff a_ rfl;have up:∀c d,c≠Q->b.i.N c=f d->((b.i.a6 Q fe).a6 Q ff).N c=f d:=λc d ax a=>
  (H.dg _ _ dO).ah ((H.dg _ _ dO).ah a)
 refine aq iC;refine arU a3 br la lb aI a4 _ 0 {b with i:=(b.i.a6 Q fe).a6 Q ff} #[] rfl (h.zero_le _) ?_ b9;obtain ⟨x0,y0,bf⟩:=bf;have lo:∀{o},h.blt o 5=true->p+o≠Q:=λ{o} J=>(qx aI o J).symm;exact ⟨λc d a=>up c d im fa,m.aT.at λd a=>up _ d io a,m.aU.at λd a=>up _ d cj a,up _ _ cj m.ti,.inl ⟨up _ _ cj F,x0,y0,up _ _ cj bf⟩,⟨_,ba⟩,rfl,λE v a=>nomatch a⟩
theorem alq{w t:aE} db{I:B->aM->Prop} ci(la:b.i.bx w s)(lb:b.i.bx t U) fb ch
  (F:dS e iH iI iJ .none)(hti:a1 e iI dL (.T iK))(bf:a1 e iJ .none .none)
  (aT:e.bh b.i.D.l w 0)(aU:e.bh iK t 0)(bK:e.D.l=b.i.D.l+5)(J:∀c d,b.i.N c=f d->e.N c=f d){dt:h}
  (aZ:∀g tk bP,yP b.i.D.l e.D.l s U b.i g fc bP->I dc cB):
  R af.ak z (cp dP [.T iH]) I Y {b with i:=e,aK:=dt}:=by
 generalize br:b.i.D.l=p at F hti bf aT aU bK aZ⊢;refine callType_codes (Q₁:=λbE c2=>bE= .T e.D.l/\c2=fh) aj.aW.called_list (aj.aW.typeCall_list_1 _) aj.aW.entry_list_init
  (code_list_new _ ⟨rfl,rfl⟩) λbE c2 cV=>?_
 obtain ⟨rfl,rfl⟩:=cV;have aI:(e.ap dd).N e.D.l=f dd:=H.d9 _ rfl;have aiZ:p+5<=e.D.l:=by rw[bK];exact h.ej _
 refine ⟨⟨_,aI,rfl⟩,aj.aW.args_list_init_2 _ _,?_⟩;show R _ _ (do let old<-aQ.k.fO dc;aQ.k.listUpdate dc iL;letGo old.bt.fX;aQ.k.dk dc cF .none) _ _ _;refine r ?_;unfold aQ.k.fO;refine r (ge (b:=fh) aI rfl eU);show R _ _ (dv e.D.l iL>>=λS=>letGo (#[]:ab B).bt.fX>>=λS=>aQ.k.dk dc cF .none) _ _ _;refine r (dx (b:=fh) aI rfl ?_);have ai0:=H.b8 fi aI rfl;have vZ:∀c d,c≠e.D.l->e.N c=f d->((e.ap dd).a6 e.D.l fi).N c=f d:=
  λc d ax a=>(H.dg _ _ dO).ah hu
 refine r (wpAny_letGo ?_);have lo:∀ic {d:aL},e.N c=f d->c≠e.D.l:=λa=>h.dl (H.bZ a);refine arP (b:={b with i:=(e.ap dd).a6 e.D.l fi,aK:=dt}) (p:=p) (w:=w) (t:=t) (aP:=b.i) a3 br la lb aiZ a4
  ⟨λc d a=>vZ c d (lo iM) iM,aT.at λd a=>vZ _ d iN a,aU.at λd a=>vZ _ d iN a,vZ _ _ (lo hti) hti,.inl ⟨vZ _ _ iO F,_,_,vZ _ _ iP bf⟩,⟨_,ai0⟩,rfl,λE v a=>by simp at a⟩
  (vZ _ _ iO F) ⟨_,_,vZ _ _ iP bf⟩ λg tk bP sQ=>?_
 exact ⟨rfl,aZ g tk bP sQ⟩
end
end
mutual
section
open aj.b3 aj.b4
mutual
section
variable {ag:h}{n:Tb}{G:k da}
theorem arS bv{e g:H}(aA:∀Z,e.D.l<=Z->Z∉own x){l1:k jD}:∀{l2:k jD} {v1 v2 K:k B},jR x g l1 v1->jR x g l2 v2->K.ao=min l1.ao l2.ao->
  (∀iQ (v:B),K[E]?=f v->∃(Z:h) (j C:B),v=B.T Z/\e.D.l<=Z/\v1[E]?=f j/\v2[E]?=f C/\a1 g Z j C)->jR x g (k.dy eH l1 l2) K:=by
 induction l1 with
 |aV=>intro l2 v1 v2 K _ _ aD _;rw[k.fy (aD.ah (h.zero_min _))];exact .aV
 |aw u l1 ih=>
  intro l2 v1 v2 K r1 r2 aD cu;cases l2 with
  |aV=>rw[k.fy (aD.ah (h.min_zero _))];exact .aV
  |aw u' l2=>
   cases r1 with
   |@aw _ M _ ws w t=>
    cases r2 with
    |@aw _ w' _ ud a' b'=>
     cases K with
     |aV=>rw[k.cZ,k.cZ,h.f4] at aD;cases aD
     |aw m K=>rw[k.cZ,k.cZ,k.cZ,h.f4] at aD;obtain ⟨Z,j,C,F,bI,ai,aO,ay⟩:=cu 0 m rfl;rw[<-aX.f.bk ai,<-aX.f.bk aO] at ay;rw[F];exact .aw (.c3 (aA Z bI) (vs:=[M,w']) ⟨_,ay,rfl,_,rfl⟩ (.aw w (.aw a' .aV))) (ih t b' (h.eA.bk aD) λE v a=>cu (E+1) v a)
theorem arT cd hq bv c6 eI gh{P ag:h}{ae L:k jD} dz{y:fm jD au×jE} eJ ci cf(j6:jR x b.i [.bE P,.bE ag] ws)(an:σ[P]?=f gi)(V:σ[ag]?=f (.bl L))
  (a:a2 (d0 (.bl gj)) o σ=f y)(W:Post y o (jG) x b I):R af.ak z (cp e8 ws) (λv c2=>R af.ak z (cp dP [v]) I Y c2) Y b:=by
 obtain ⟨bj,a⟩:=qw a;have al:=tD bj;clear bj;refine VT O j6 an V λw t s U g m am fu av d4=>?_;clear j6 an V;have ed:min s.cc.l U.cc.l=(k.dy (λj C=>jD.c3 [j,C]) ae L).ao:=by rw[k.fN,av.ao,d4.ao];rfl
 refine Aw ?_;refine alq (b:=b) (e:=g) a3 am fu (by rw[ed];exact qo al) m.m m.b0 m.d m.aT m.aU m.sz m.bg λV tk K sQ F=>?_;have le:b.i.D.l<=g.D.l:=m.sz▸h.eh _ _;have hz1:b.i.D.l<=V.D.l:=h.bY le F;have x2:a8 x b.i x V:= .cx hz1 sQ.bg;have rv:jR x V gj K.bt:=by refine arS (e:=b.i) (λZ bI=>zB O bI) (av.ext x2) (d4.ext x2) (by rw[ab.length_toList,sQ.sz,ed,k.fN]) λE v a=>?_;obtain ⟨Z,j,C,ba,bT,_,cr,cs,qQ⟩:=sQ.cY E v (by rw[<-ab.getElem?_toList];exact a);exact ⟨Z,j,C,ba,h.bY ie bT,by simpa using cr,by simpa using cs,qQ⟩
 obtain ⟨c,xg⟩:=sQ.bD;obtain ⟨_,_,bU,Ad⟩:=(O.cx hz1 sQ.bg).adopt (X:=g.D.l) (vs:=k.dy eH ae L) (ws:=K.bt) ⟨c,xg⟩ (zB O le) (h.bY O.fq le) rv al;exact W _ _ _ _ V tk ⟨⟨[(g.D.l,none)],rfl,λw aR=>(k.en.mp aR:w=g.D.l)▸le⟩,x2.bg⟩ bU Ad a
theorem alB cd dD gk eK{jF:jL} dz eL gl:
  kg n G gn jF o=lP n G args jF λvs=>a2 eM λae=>a2 (d0 gi) o:=by
 have aC:zY (au:=au) n G c5 jF=f λo=>lP n G args jF λvs=>a2 eM o:=by show (match oj n G C with|f .zip=>f λ(o:k jD->ak au)=>lP n G args jF λvs=>a2 eM o|_=>none)=_;rw[aO]
 show (match oj n G j with|f .bl=>FI (zY n G c5 jF) (lP n G c5 jF) o|_=>uX n G j jF λaz=>lP n G c5 jF λvs=>a2 go o)=_;rw[ai,aC];rfl
theorem acp dD gk eK ce eL gl gp:kI ag n G gn:=by refine gs;intro au z env cJ jF x σ b o L I Y P az O aF pp jK;rw[alB ai aO] at aF;refine PV X ai (k.forall_mem_cons.cz ⟨gq,λS e=>b5 e k.not_mem_nil⟩) az O (spliced_cons (BF X aO aR P az O aF (λvs ws j9 σ1 an t1 x1 a0 j6 aC=>nR aC λae e aC=>SM e λq E l1 l2 cw pe ho2 al=>?_) jK));clear e;subst cw al;exact wpAny_mono (arT (b:=dI) (Y:=Y) P.bd a0 j6 pe ho2 aC gt) (λv s1 m=>spliced_nil m) λS S m=>m
end
end
mutual
section
open aj.b3 aj.b4
mutual
section
variable {z:bQ}
theorem anR{aa:aE}{A:ab a7}{bA:h}(lo:(aa==sysModules)=false):
  KdlSrc af.es af.M "dict" aa aa A.l (λq v=>∃a,A[q]?=f a/\v=a.as) (λe=>oU e aa A bA) where
 aH:=λS ad=>ad.aH
 there:=λS ad=>⟨let ⟨_,aA,_⟩:=ad;H.bZ aA,let ⟨_,aA,_⟩:=ad;H.bZ aA⟩
 bg:=λS S ad J=>ad.at λd a=>J aa ht d a
 notList:=bG
 notTuple:=bG
 hint:=λS S S S ad a5=>kdl_hint_dict ad.aH a5
 iter:=λz b a3 ad=>by
  have cv:aa≠b.i.D.l:=by obtain ⟨_,aA,_⟩:=ad;exact h.dl (H.bZ aA)
  refine ⟨{bS:= .aH "dict_keyiterator",b6:= .fA #[.T aa,.cX 0 0,.cX A.l 0,.cX bA 0]},λq e=>e.IsKeyIter b.i.D.l aa q A.l bA/\oU e aa A bA,λY I a5=>anQ lo ad a5,⟨?_,?_,?_,?_,?_⟩,⟨_,H.d9 _ rfl,rfl,rfl⟩,ad.at λd a=>H.df _ a⟩
  ·intro t aS;rw[k.en] at aS;simp [aS]
  ·intro q e g st J;exact ⟨st.1.at λd a=>J _ bF d a,st.2.at λd a=>J aa bF d a⟩
  ·intro q s' I Y aJ st aZ;have ai:A[q]?=f A[q]:=ab.cP aJ;refine anP st.1 st.2 ai λg xA cG=>?_;exact aZ _ g s'.aK ⟨_,ai,rfl⟩ ⟨xA,st.2.at λd a=>cG.ar _ _ cv a⟩ λt d aS a=>cG.ar t d gv a
  ·intro s' I Y st aZ;exact anO a3 st.1 st.2 bF λg he'=>aZ g s'.aK λt d aS a=>he' t d gv a
  ·intro q s' I Y st aZ;exact wpAny_pyIter_keyiter st.1 aZ
theorem KE.keys bv ch eX dF(j:KE x e A s):jR x e gw (s.bm λj=> .T j.2.1):=by
 induction j with
 |aV=>exact .aV
 |aw _ w _ _ ih=>exact .aw w ih
theorem oU.of gx[fl a9] gy gz gA ch g4 gB(c:e.DictOfH o w s):∃bq bA,oU e w bq bA:=by obtain ⟨d,bq,bA,w,t,c,_⟩:=c;exact ⟨bq,bA,d,w,t,c⟩
theorem aet gx[fl a9] gy gz gA ip{bq:ab a7} gB(cU:bq.bt=s.bm (fw o))(an:K.l=bq.l)
  (V:∀iQ v,K[E]?=f v->∃a:a7,bq[E]?=f a/\v=a.as):K.bt=s.bm λj=> .T j.2.1:=by
 have a:s.bm (λj=>B.T j.2.1)=bq.bt.bm a7.as:=cU▸(k.map_map (az:=fw o) (O:=a7.as) (ae:=s)).symm;refine a▸k.ext_getElem ((k.ek _).symm▸an) λE w t=>?_;obtain ⟨j,ai,cw⟩:=V E K[E] (ab.cP (s:=K) w);obtain ⟨_,rfl⟩:=ab.getElem?_eq_some_iff.mp ai;exact cw.ah (k.getElem_map _).symm
theorem alk cd bv c6 eI dz dC eJ{q:h} eX e4 gC ce ci cf
  (rv:jG x b.i (.bE q) M)(al:σ[q]?=f eY)(F:tT A=true)(a:a2 (d0 (.bl gw)) o σ=f L) gD:R af.ak z (cp dP [M]) I Y b:=by
 obtain ⟨y,rfl,ay⟩:=rv.eo;obtain ⟨s,am,av,aB⟩:∃s,_:=(O.ro q _ al).bb λq' c=>(aX.f.bk (ay.symm.ah c.1)▸c.2:lg x b.i eY y).tT F;obtain ⟨bj,a_⟩:=qw a;obtain ⟨bq,bA,raw⟩:=oU.of am;have cU:=raw.bl am;have sz:bq.l=A.ao:=(bz k.ao cU).ah ((k.ek _).ah av.ao.symm);refine Aw (kdl_call (anR (K9 X.yX O ay)) a3 raw (sz▸qo aB) λg tk K c J aI cu BZ=>?_);have x2:a8 x b.i x g:= .cx BZ J;exact ((O.cx BZ J).adopt (X:=b.i.D.l) (vs:=A.bm c7) (ws:=K.bt) ⟨c,by simpa using aI⟩ (λy=>h.lt_irrefl _ (O.sG _ y)) O.fq (aet cU cu.1 cu.2▸(av.ext x2).keys) ((k.ek _).symm▸aB)).bb λmv c=>c.bb λmQ c=>c.bb λbU Ad=>
  W _ _ _ _ g tk ⟨⟨_,rfl,λw aR=>h.fM (k.en.mp aR).symm⟩,x2.bg⟩ bU Ad a_
theorem alj cd bv c6 eI dz dC eJ{vs:k jD} gh gC ce ci cf
  (j6:jR x b.i vs ws)(a:a2 gE o σ=f L) gD:R af.ak z (cp dP ws) I Y b:=by
 refine BK a λP ad a=>jZ ad λv cw ad=>jZ ad λag a4 ad=>?_;obtain ⟨M,rfl,rv⟩:=j6.only cw;rw[qj a4] at rv;unfold zV at ad;cases al:l_ σ ag with
 |f ae=>rw[al] at ad;exact ali O rv (qz al) gF W
 |none=>rw[al] at ad;exact jZ ad λA bd ad=>lM ad λF ad=>alk X a3 O rv hb F gF W
end
mutual
section
variable {ag:h}{n:Tb}{G:k da}
theorem aco dJ{W ca:Pos} eK ce eL(F:∀cd jF,zY (au:=au) n G args jF=none) gp:kI ag n G (.dQ gm args [] ca):=by
 refine gs;intro au z env cJ jF x σ b o L I Y P az O aF pp jK;have aF:lP n G args jF (λvs=>a2 gE o) σ=f L:=by replace aF:(match oj n G j with|f .bl=>FI gG gH o|_=>uX n G j jF λaz=>lP n G args jF λvs=>a2 go o) σ=f L:=aF;rw[ai] at aF;replace aF:FI gG gH o σ=f L:=aF;rw[F] at aF;exact aF
 refine BF X ai aR P az O aF (λvs ws j9 σ1 an t1 x1 a0 j6 aC=>alj (b:=dI) X P.bd a0 j6 aC gt) jK
end
end
end
mutual
example _ s List e b some o heap h q d x p ρ σ k g C length r h' u v objs size Q X env get? m A vs wpAny_bind ζ a Nat Value E ev Heap M es h2 w ho n e1 f xs R ws hm push _ _ _ _ _ _ _ _ _ _ _ jK T ac pos PySem z K toks ref run ha hb map wpAny h1 hd cons e2 hs «at» σ' hl nil Str W he type ρ' update wpAny_pure zip g1 h₀ trans Addr D F Shared hx as aw dict g2 hc kvs Option body[.ai 38]{O:b a8}Ext hC y Builtin G Obj hm1 names own{V:b ax}{ad:cD}Expr Sem bs cd en hne kindOf l len t toArray{ks:b (aT a8)}[.ai k][by kernel_rfl]Bool DictOf Name ObjectAttr emptyDict hB hk hlen hz h₁ pure[ae.cQ q.cO q.Q]Calls «by» Looks S SeqAt acc base bnd dd findIn h3 hf mpr rest[⟨?_,⟨λG G=>rfl,λG=>rfl⟩⟩]{D:dV}{a:aL}[{a with ah:=a.ah+1}][cE.cM q.Q.cN name][.str name a.ah][{f with aP:=e a.g.w.x}]ho' SameBut c get?_push_of_some hcd hn hq hsc items kinds lookup more prs σ1{W:Type}{n:jE}[.ai q]B Nodup ab congrArg fd h0 hm2 hs2 hv inst keeps lt_size mem_singleton ne_of_lt pairs scope{bA:a8->Prop}{j:aI}[[j]][m++[(j,none)]][.obj n.r]{s:dZ jD W×jE}[F ?_](nQ:yO q.ag){E:cA J}{sl:cA (aT J)}[c::O][by rfl]Array N PUnit Pos PyData append_nil col ep fields hlt hm0 hns keyHash params prog putName strKind sub wpAny_mono[LN aV a.g.w.x][.refl _ _][.str k](j:qf bA ks O V)[a9 J×a9 J][(e l.1,l.2)]{c:a8}{v:J}[(·.1)][(j,none)]{K:J->aL->Prop}[{a with g:=t,ah:=tk}][λG G c=>c](z:q.ag.In a.g){c:aI}[(·.arg)][a.g.w.x+1][LN b8 a.g.w.x][by omega]a2 absurd after andThen append_cons bm call cl fn g0 get?_update_self hp keys «do» map_cons size_push subDict wpAny_holding wpAny_ite_false wpAny_standAt[[.ch 38 [(rq,H),(vC,d)]]][⟨.aA "tuple",none,.seq [wa,wb].bh 0,#[]⟩][{cls:= .aA "dict",data:= .aP #[]}][by simp]{k:ax}[(· +1)](aJ:q6 ab)[s.am jD.str]{aS:b (ax×J)}[ax×kN]{E:b jD}{A:Env}[⟨?_⟩][I.ef _][aD ?_][ds ?_]{name:ax}[[.ai 38,.aA "Exception",.aA "BaseException",.aA "object"]][.aA "object"][.ai c][a.ah+1][.str name dP][a2.cP name bP dQ v][M.cj i][model cO Q][⟨.aA "tuple",none,.seq bK.bh 0,#[]⟩]Around Assign Attribute Dict Except ForInStep I a1 alloc builtin builtinOwn constValue contains forIn_cons hL hV hi hnew hrest isEmpty kind le_refl le_succ length_map length_zip locals lookIn looks_clsIn map_fst_zip mem_append newId nodup_append same setAttr shape sizeLine_eq standAt storeInDict stored stored_new toInCall typeIn t₁ valueAt yield zip_cons_cons[[ko.ch 38 []]][n++eE][m++[(a.g.w.x+1,e j)]][aT a8](A:Env)(ad:cD)(p:a1 m n h)(bq:b9<=j)[.ai j]{X:b J}[(ks.am jD.str).aE E][pH S ab z true]{jF:jL}{m:jV}{h:M}{o:jD->N W}[V.am jD.str][.ret .none]{y:Unit->aL->Prop}(bX:bG q.ag aV name=e none)[⟨.ai 38,none,.cI E,sl⟩](R:a.g.B c=e eY)[⟨.ai 38,e j,.cI E,sl⟩][{a with g:=ao,ah:=t1}][⟨rfl,?_⟩][.ai 35][(by rw[sd.a4];simp)][(by rw[br];exact sd.b1.1)][.ai fr][.ai c9][{a with g:=(a.g.Z dU).Z c_}][_>>=_]wpAny_load' Constant DictEntry a3 any_eq_true any_toList append_assoc arm_eval_Dict call_exc codeAny d2 d3 da dictDisplay e3 excClassObj f1 f2 fI false_eq_true function fx g3 get?_push_at getElem?_append_left getElem?_eq_some_iff hT has_obj hg holding if_false if_neg ii initId isInstance isSome isStrOf le_of_eq length_append lt_trans mem_cons mem_cons_self mem_map merged nil_append not_lt not_mem_nil ownDictForStores putName_dict quiet_builtin refKey refuseLoop typeOf wpAny_Name wpAny_alloc wpAny_call wpAny_execs_cons wpAny_loadName_local wpAny_loadPart wpAny_typeOf_ref{S:I}[[(rq,H),(vC,d)]][n++dv][.ch 38 f8][(a.g.w.x+1,e j)][⟨rv,λG G G c=>c⟩][k::V][⟨rfl,rfl⟩]{be:b ax}[be.am jD.str][ax×J](h:pH S ab z true c)(as:M.bT j h t)(R:j∉a5 m)[p.bD d f c][(by rw[<-p.bf];simp)]{ks:b ax}[e v][ks.aE X][show e none=e gn from c]{ay:b aI}{o:b jD->N W}[b4 A ad V O][λG G af=>af][du dJ][Q::X][h.Z dx](j:qf eP ks cy V)[.dY ks cy ad][{a with g:=a.g.Z dx}][j.L L][aT aI×b cX](l:a9 J×a9 J)(aj:b cX)[(none,aj)][aj++[l]][(e j,[])][(aj++[(l.1,l.2)]).r==17][aN.aE aO][aO++X]{C:I}{y:ae.Fin->aL->Prop}[a2.cP name bP bQ v]{kd:I}[.d4 "object.__setattr__"][λfin s'=>fin= .done eV/\y () s'][λc s'=>K c s']{y:aT aI->aL->Prop}[a0.bo.fU dO][f5 R ?_][bW _ _ _ _ c5 ?_][M.bV _ R]{c j:aI}(R:a.g.B c=e e0)[("__debug__":ax)][λv Q j9 b5 ao t1 x1 aF rv T=>?_][∀d f,a.g.B d=e f->d≠c->t.B d=e f][⟨.ai 38,e a.g.w.x,.cI E,sl⟩][⟨cE.cM q.Q.cN name,.str name bg,v⟩][er dO name v][.aA "dict"][by rw[tM]][C.ext x1][⟨cE.cM q.Q.cN name,.str name dP,v⟩][(by rw[tM];rfl)][U.ext x1][⟨.aA "dict",none,.aP [bb].bh C,#[]⟩][x1.aH x2][rv.1.ext x2]{ab:Tb}{W:Result->aL->Prop}[rv.2 rfl d f c](h:Bg S ab z O)[[J.ai c,H,d]][h.aj C U p L (λE X j9 b5 ao t1 x1 aF j6 T=>?_) aa][(by rw[br];exact sd.b1.2.1)][(by rw[br];exact sd.b1.2.2)][{a with g:=bu,ah:=tk}][{a with g:=P,ah:=ap3}]{cO:Program}{Q:World}{nm i:ax}{q cB:aI}{a_ dg:b J}{hdct:bl}{sn:b ax}{cR:b J}{ca:bl}{cG:aT bl}{bF:aT aI}{k0 k1 k2 k3 k5:aT J}{b9 eo fG:String}{ag:Frag}(aK:ExcBaseFacts b9 eo fG dg){bK:b J}{fr:aI}(z:ag.In a.g)(aY:a.g.B q=e (fo nm i q cB a_ dg hdct sn cR ca cG bF k0 k1 k2 k3 k5 eo))[⟨r2,λG d f c=>M.bV _ (k1 d f c)⟩](ea:bG ag b8 "__init__"=e (e e6))[.aA "function"](bI:ez ag e6=e hH)(ec:bK.r<=sizeLine)[ae.dh e6 (.ai c9::bK)][.ret e7][⟨.ai q::bK,[]⟩][M.bV _ c][by rw[M.dq]][{a with g:=P}]co df dp ga gt i:True:=x
mutual
section
open ae.bx ae.bB
mutual
section
variable {S:I}{ab:Tb}{z:b dE}
noncomputable abbrev Oo(h t:M):Prop:=∀d f,h.B d=e f->t.B d=e f
theorem acy{bU:Const} gN a7:pH S ab z true (.fa bU kd ad):=by refine bL;intro W D A ay jF m n a o s y K C U p L l aa;exact JF L λv Q tk rv c=>l v Q m n a.g tk cU p gb c
theorem acB dz a7 dB:pH S ab z true (.bn k ad):=by refine bL;intro W D A ay jF m n a o s y K C U p L l aa;exact Cp aJ U p L λv Q tk rv c=>l v Q m n a.g tk cU p gb c
theorem acD cZ a7 gh:pH S ab z true (.UnaryOp .USub c ad):=by
 refine bL;intro W D A ay jF m n a o i y K C U p L l aa;refine wpAny_UnaryOp (h.aj C U p L (λH va j9 b5 ao t1 x1 aF ra T=>?_) aa);obtain ⟨ra,k1⟩:=ra;unfold k6 at T;cases H<;>first|(cases T;done)|skip
 cases ra;exact PyProof.Rows.neg_int (l _ _ j9 b5 ao (t1+1) x1 aF ⟨.int _ _,k1⟩ T)
theorem ac6{k aZ:ax}{p1 p2 ad:cD} dB:IP S ab z true (.Compare (.bn k p1) [.Is] [.bn aZ p2] ad):=by refine dH;intro W D A ay jF m n a o s y K C U p L l aa;have L:uX ab z k jF (λH=>uX ab z aZ jF λd=>bE (jN .Is H d) λi=>o i) n=e s:=L;refine wpAny_isTrue_Compare1 ?_ rfl;refine Cp (ad:=p1) aJ U p L λH va t1 ra T=>?_;refine Cp (a:={a with ah:=t1}) (ad:=p2) aJ U p T λd vb t2 rb ar=>?_;refine nR (U:=λG=>qn H d) ar λi ao P=>?_;refine F (Kw (a:={a with ah:=t2}) aJ.h64 aJ.yX p ra rb ao dJ);exact wpAny_truthy_bool (l i i m n a.g t2 cU p ⟨rfl,λG G G c=>c⟩ P)
structure Bg(S:I)(ab:Tb)(z:b dE)(O:b a8):Prop where
 aj:∀{W:Type} {D:dV} {A:Env} {ay:b aI} {jF:jL} {m:jV} {n:jE} {a:aL} {o:b jD->N W} {s:dZ jD W×jE} {y:b J->aL->Prop} {K:J->aL->Prop} {ad:cD},
   kR S D m a.g->FR ay z A jF m a.g->a1 m n a.g->lP ab z O jF o n=e s->Post s o (λm h be E=>jR m h be E/\Oo a.g h) m a y->nF s m a K->an q.N D (spliced (backTo ad (starEach O A))) y K a
theorem acF:Bg S ab z []:=by refine dH;intro W D A ay jF m n a o i y K ad C U p L l aa;exact wpAny_items_nil (l [] [] m n a.g a.ah cU p ⟨.aw,λG G c=>c⟩ L)
theorem acE cZ aW gh(as:Bg S ab z O):Bg S ab z cy:=by refine dH;intro W D A ay jF m n a o i y K ad C U p L l aa;refine wpAny_items_cons (h.aj C U p L gZ aa) (h.pl.star _ _);refine as.aj (a:=e1) g6 g9 aF T (λE X lI σ2 P t2 x2 aQ j6 ar=>?_) (aa.dd x1);exact l _ _ lI σ2 P t2 ha aQ ⟨.aq hb j6.1,λd f c=>j6.2 d f he⟩ ar
theorem acA aW a7 hf:pH S ab z true (.b O ad):=by refine bL;intro W D A ay jF m n a o i y K C U p L l aa;refine wpAny_List hh;obtain ⟨j6,k1⟩:=j6;obtain ⟨bI,ar⟩:=qw T;have av:E.r<=lim:=tD bI;obtain ⟨x2,aQ,r2⟩:=aF.newList j6 av;exact ⟨by rw[<-j6.r];exact qo av,l _ _ _ _ _ t1 ha aQ hF ar⟩
theorem acC aW gN a7 hf:pH S ab z true (.Tuple O kd ad):=by
 refine bL;intro W D A ay jF m n a o i y K C U p L l aa;refine wpAny_Tuple hh;obtain ⟨j6,k1⟩:=j6;cases av:I.ble E.r lim with
 |false=>rw[av] at T;cases T
 |true=>rw[av] at T;obtain ⟨aQ,r2⟩:=aF.Te j6;exact ⟨by rw[<-j6.r];exact qo (tD av),l _ _ _ _ _ t1 (x1.aH (aX.Z _ _ _)) aQ hF T⟩
theorem acz a7:pH S ab z true (.dY [] [] ad):=by refine bL;intro W D A ay jF m n a o s y K C U p L l aa;have L:bE (d3 (.aP [])) o n=e s:=L;obtain ⟨bI,ar⟩:=qw L;rw[fg];refine F (du ?_);show an q.N D newDict y K a;obtain ⟨x1,aF,r1⟩:=p.Td (f:= .aP []) (ob:=dx) λk=> .uJ (M.DictOfH.new a.g) .aw dy;refine wpAny_newObj_type ?_;exact l _ _ _ _ _ a.ah x1 aF ⟨r1,λG d f c=>M.bV _ c⟩ ar
end
end
mutual
section
open ae.bx ae.bB
inductive qf(bA:a8->Prop):b eH->b a8->b ax->Prop
 |aw:qf bA [] [] []
 |aq {k:ax} {H:_} {d:_} {c:a8} {ks:b eH} {O:b a8} {V:b ax}:bA c->qf bA ks O V->qf bA (e (.fa cV H d)::ks) cy gc
theorem qf.Cd co bi aW a6 cW:∀b6 {ag:b jD->N W},Cd ks ag=ag (V.am .str):=by
 induction j with
 |aw=>intros;rfl
 |aq _ _ ih=>intro W ag;exact ih (ag:=λks=>ag (.str _::ks))
theorem qf.bf co bi aW a6 cW:ks.r=V.r/\O.r=V.r:=by
 induction j with
 |aw=>exact gd
 |aq _ _ ih=>exact ⟨cb dA ih.1,cb dA ih.2⟩
noncomputable def b4 eI eJ(V:b ax)(O:b a8):b cX:=b.zipWith (λk c=>(d6 A cV,do let k<-eval c A;eu ad;bv k)) V O
theorem qf.LA co bi aW a6 cW eI eJ:(b4 A ad V O).r=ks.r:=by rw[b4,b.length_zipWith,j.bf.1,j.bf.2,I.min_self]
theorem qf.es co bi aW a6 cW eI eJ:
  (evalEachOpt ks A).aE ((evalEach O A).am λv=>do let k<-v;eu ad;bv k)=(b4 A ad V O).am λl=>cY:=by
 induction j with
 |aw=>rfl
 |aq _ _ ih=>exact cb (b.aq _) ih
theorem ai5 dz ge(h:zF k gf=false):k∉be:=by
 induction be with
 |aw=>exact b.fT
 |aq aZ s ih=>
  replace h:(match j4 k aZ with|true=>true|false=>zF k dC)=false:=h;cases i:j4 k aZ with
  |true=>rw[i] at h;exact tf_ h
  |false=>rw[i] at h;exact λY=>(b.fN.mp Y).elim (λc=>tf_ (i.symm.aH (n8.bJ c)).symm) (ih h)
theorem aeL ge(h:wZ gf=true):be.b_:=by
 induction be with
 |aw=>exact b.nodup_nil
 |aq k s ih=>
  replace h:(match zF k dC with|true=>false|false=>wZ dC)=true:=h;cases i:zF k dC with
  |true=>rw[i] at h;exact ft_ h
  |false=>rw[i] at h;exact b.nodup_cons.bJ ⟨ai5 i,ih h⟩
theorem ex dD{o:ax} c0(h:o∉aS.am c1):ew aS o v=aS++[(o,v)]:=by unfold ew;rw[fE];rw[b.fd];rintro ⟨kv,Y,az⟩;exact h (b.fP.bJ ⟨kv,Y,by simpa using az⟩)
theorem alG{b3:b gg}:∀dD,((aS++b3).am c1).b_->fQ aS b3=aS++b3:=by
 induction b3 with
 |aw=>exact λ{aS} G=>(b.cF aS).symm
 |aq l b3 ih=>
  intro aS nd;have br:l.1∉aS.am c1:=by rw[b.map_append,b.dp,b.ep] at nd;exact λY=>nd.2.2 _ Y _ b.fO rfl
  show fQ (ew aS l.1 l.2) b3=_;rw[ex br,ih (by simpa using nd)];exact b.df .. |>.symm
mutual
section
variable {m:jV}{n:jE}{h t:M}
theorem a1.aez cp{f:ko} eK gi gj eL(mQ:∀E,¬IsTup h j E)(s:s8 cq m h cr t->pY cq h->lg cr t f c2):
  a1 cr (n++[f]) t/\jG cr t cs eM:=by
 have nv:a5 cr=a5 m++cq:=by simp [a5]
 have mv:s8 cq m h cr t:=⟨λS l c=>by rw[b.fx (b.fy.mp c).1];exact c,λd f c al d_=>⟨by
  rw[nv,b.en];rintro (i|i)
  ·exact al i
  ·exact d_ i,f.slots,(as.2 d λi=>d_ (by simp [i])).aH c⟩⟩
 have nZ:pY cq h:=λd al=>by rw[b.ck] at al;clear as R s nv mv;subst al;exact ⟨bq,mQ⟩
 refine ⟨⟨λd f c=>(as.2 d ?_).aH gk,by rw[as.1];exact p.a_,by simp [p.bf],?_,λH ak=>?_,λS o' c=>?_⟩,.obj (l:=c2) gl⟩
 ·rintro rfl;exact dc (M.cj c) (I.fS.bJ bq)
 ·rw[nv,b.ep];exact ⟨p.nd,by simp,λH ak d al=>by rw[b.ck] at al;clear as bq mQ s nv mv nZ;subst al;exact λaf=>R (af▸ak)⟩
 ·rw[nv,b.en] at ak;rcases ak with ak|ak
  ·exact p.ca H ak
  ·rw[b.ck] at ak;clear as R mQ s nv mv nZ;subst ak;exact bq
 ·by_cases bX:S<n.r
  ·rw[b.fx bX] at c;obtain ⟨i,bY,ro⟩:=p.ro S o' c;refine ⟨i,mv.pR S i bY,ro.mv nZ mv λH ak=>as.2 H λaf=>R ?_⟩;rw[<-af];exact b.mem_flatMap.bJ ⟨i,b.mem_of_getElem? bY,ak⟩
  ·have hn':S=n.r:=by
    have:=(b.fy.mp c).1;simp at this;omega
   clear bX;subst hn';simp at c;subst c;exact ⟨c2,by rw[<-p.bf];simp,s mv nZ⟩
set_option tactic.hygienic true in
theorem aiu dz{v:jD} gm:∀dF eN,jR m h E X->pL eO cV=e gn->∃Q,eB go k=e Q/\jG m h v Q:=by
 induction ks with
 |aw=>intro E X _ c;exact nomatch gp
 |aq o ks ih=>
  intro E X H c;induction H using jR.casesOn with
  |aw=>exact nomatch gp
  |aq H d=>
   rename_i Q _ _;rw[b.dp,b.eD] at c;refine Q8 c (λi T=>?_) λi T=>?_
   ·cases n8.mp (aT.e.inj i:j4 o k=true);clear c;cases T;exact ⟨Q,by simp [eB],H⟩
   ·obtain ⟨w',P,bH⟩:=ih d T;have bc:¬o=k:=λaf=>bl.noConfusion ((n8.bJ af).symm.aH (aT.e.inj i));exact ⟨w',by simpa [eB,b.eD,b.find?_cons,bc] using P,bH⟩
end
mutual
section
variable {S:I}{ab:Tb}{z:b dE}
theorem Qh bM dG bN dz{y K:J->aL->Prop}(h:y (.str k a.ah) bO):an q.N D (d6 A cV) y K a:=λG G G=>h
theorem am6 dG a7 bi aW a6(j:qf eP ks O V):
  ∀b6 bM gq eQ eR b7 bN gr ct {y:b (J×J)->aL->Prop} c3,
  kR S D m a.g->FR ay z A jF m a.g->a1 m n a.g->lP ab z O jF o n=e s->
  (∀E X ps aB au t tk,aX m a.g aB t->a1 aB au t->jR aB t E X->Carries bw ps (V.aE X)->X.r=O.r->Oo a.g t->o E au=e s->y ps c4)->nF s m a K->
  an q.N D (evalPairs gs) y K a:=by
 induction j with
 |aw=>intro W D ay jF m n a o s y K C U p L l aa;exact evalPairs_nil (l [] [] [] m n a.g a.ah cU p .aw trivial rfl c5 L)
 |aq az _ ih=>intro W D ay jF m n a o s y K C U p L l aa;refine evalPairs_cons (Qh ?_);refine F (cS (az.aj (a:=bO) C U p L gZ aa) gt λG G af=>af);refine F gu;refine ih (a:=e1) g6 g9 aF T (λE X ps lI σ2 P t2 x2 aQ j6 aR hl2 k2 ar=>?_) (aa.dd (eA:=t1) x1);exact l _ gv _ lI σ2 P t2 (aX.aH x1 x2) aQ (.aq hb j6) ⟨by simp [ae.cQ,J.fJ],rfl,aR⟩ (cb dA hl2) (λd f c=>k2 d f he) ar
theorem Tc eR b7 eS eK:aX m h m gw/\a1 m n gw/\h.w.x∉a5 m/\(h.Z dx).bm bw h.w.x []:=
 ⟨aX.Z m h _,p.Z _,λi=>dc (p.sG _ i) (I.lt_irrefl _),M.bm.new h⟩
theorem Qz eS cp dD(C:h.bm bw j aS)(E:cA J):¬IsTup h j E:=λbg=>by obtain ⟨f,O,cH,R,aR,ap,_⟩:=C;obtain ⟨o',bS,_,S,hd'⟩:=bg;rw[R] at bS;clear xζ2;cases bS;rw[ap] at hd';cases hd'
theorem Qy b6{m kM:jV} b7{h t aG:M} cp gm dF eN eT ct dD eK gi(Y:h.bm bw j aS)(ap:t.bm bw j go) gj eL
  (rv:jR m h E X)(cd:ks.aE X≠[])(av:ks.r=X.r)(c:bE (d3 (.aP eO)) o n=e s)(k:aX kM aG m h)(eb:aG.w.x<=j):
  ∃aB au,aX kM aG aB t/\a1 aB au t/\jG aB t cs eM/\o cs au=e s:=by
 obtain ⟨_,ar⟩:=qw c;have hvl:E.r=X.r:=rv.r;have ne:(ks.am jD.str).aE E≠[]:=by intro af;have:=cb b.r af;simp only [b.ei,b.eh,b.length_nil] at this;apply cd;apply b.eq_nil_of_length_eq_zero;simp only [b.ei];omega
 obtain ⟨g',CH⟩:=p.aez (t:=t) (f:= .aP eO) as R bq (Qz Y) λmv nZ=>
  .vH ne (λe' az=>by
   obtain ⟨H,d⟩:=e';obtain ⟨i,_⟩:=b.of_mem_zip az;clear az;obtain ⟨k,_,rfl⟩:=b.fP.mp i;exact ⟨k,rfl⟩) ap.mapOf λaZ v L=>by
   obtain ⟨Q,ao,P⟩:=aiu (h:=h) rv L;exact ⟨Q,ao,P.mv nZ mv⟩
 refine ⟨_,_,?_,g',CH,ar⟩;obtain ⟨⟨τ,B0,Ko⟩,kp⟩:=k;refine ⟨⟨τ++[c2],by rw[B0,b.ff],λH ak=>?_⟩,by rw[as.1];exact kp.1,λd f c al=>?_⟩
 ·rw[xS,b.en] at ak;rcases ak with ak|ak
  ·exact Ko H ak
  ·simp [a5] at ak;rw[ak];exact eb
 ·refine (kp.2 d f c al).aH λo' e'=> .eq ((as.2 d λaf=>?_).aH e');have:=M.cj c;rw[af] at this;exact dc this (I.fS.bJ eb)
theorem qf.L bi aW a6 co a7 b6 eQ b7 eT ct cW(L:kg ab z (.dY ks O ad) jF o n=e s):
  lP ab z O jF (λE=>match I.beq (V.am jD.str).r E.r&&wZ eU with
   |true=>bE (d3 (.aP ((V.am jD.str).aE E))) o
   |false=>stuck) n=e s:=(congrFun j.Cd n).symm.aH L
theorem Pr b6 a6 dF{C:N W} b7 ct(c:(match I.beq (V.am jD.str).r E.r&&wZ eU with
   |true=>C
   |false=>stuck) n=e s):V.b_/\C n=e s:=by
 cases bY:(I.beq (V.am jD.str).r E.r&&wZ eU) with
 |false=>rw[bY] at c;exact ns_ c
 |true=>rw[bY] at c;exact ⟨aeL (bl.and_eq_true_iff.mp bY).2,c⟩
theorem qf.VS co bi cZ aW a6 eN(j:qf bA ks cy V)(h:X.r=(c::O).r):V.aE X≠[]:=by
 cases j;cases X with
 |aw=>exact nomatch h
 |aq Q X=>exact nofun
theorem acj bi cZ aW a7 a6 gx(Rq:ks.r<=15):kI S ab z gy:=by
 refine bL;intro W D A ay jF m n a o s y K C U p L l aa;obtain ⟨x0,dk,hd0,cK⟩:=Tc p;refine wpAny_Dict_pairs (knd:=ae.cQ q.cO q.Q) (j.es A ad) (by clear Rq L;cases j;exact nofun) (by rw[j.LA];exact Rq) ?_;refine am6 j (a:=gz) (C.ext x0) (U.ext x0) dk gA (λE X ps j9 b5 ao t1 x1 aF j6 aR bs kp T=>?_) (aa.dd (eA:=a.ah) x0);obtain ⟨nd,T⟩:=Pr T;have hkw:V.r=X.r:=j.bf.2.symm.aH bs.symm;have a3:ao.bm bw a.g.w.x []:=by obtain ⟨f,es',cH,R,s⟩:=cK;exact ⟨f,es',cH,kp _ _ R,s⟩
 have hd1:a.g.w.x∉a5 j9:=by obtain ⟨f,_,_,R,_⟩:=cK;exact aX.pP x1 R hd0
 refine ⟨V.aE X,aR,a3,λt ap as=>?_⟩;rw[alG (by rw[b.fR,b.em (I.fK hkw)];exact nd),b.fR] at ap;obtain ⟨aB,au,x2,aQ,v_,ar⟩:=Qy aF as a3 ap hd1 p.a_ j6 (j.VS bs) hkw T (x0.aH x1) dI;exact l _ _ aB au t _ x2 aQ v_ ar
end
end
mutual
section
open ae.bx ae.bB
theorem aiC(U:(aT (a9 J)×a9 J)->gB->a9 (d0 gB))
  (bI:∀gC gD,aj.r+1<17->U cY gE=bv (.eC (none,aj++[l])))
  (fB:∀gC gD,aj.r+1=17->U cY gE=(do let j<-dr gF;bv (.eC gG))):
  ∀(b0 aj:b cX),b0≠[]->aj.r+b0.r=17->forIn (b0.am λl=>cY) ((none:aT aI),aj) U=(do let j<-dr (aj++b0);bv gG):=by
 intro b0;induction b0 with
 |aw=>exact λG cd G=>dc rfl cd
 |aq l s ih=>
  intro aj _ h;cases s with
  |aw=>rw[b.dp,b.map_nil,b.d8,fB l aj h];simp
  |aq i bK=>rw[b.dp,b.d8,bI l aj (by rw[<-h];exact I.add_lt_add_left (I.succ_lt_succ (I.succ_pos _)) _),pure_bind];have:=ih gF (b.cons_ne_nil _ _) (by rw[<-h,b.fL];exact I.succ_add_eq_add_succ _ _);rw[b.ff] at this;exact this
theorem ahc(cm:b cX)(bs:cm.r=17):fm (cm.am λl=>cY)=(do let j<-dr cm;bv eM):=by
 have cd:cm≠[]:=by rintro rfl;cases bs
 unfold fm;dsimp only
 rewrite [aiC _ (λl aj h=>by
  have bc:gH=false:=by simp;omega
  simp only [bc,bl.fs,fD]) (λl aj h=>by
  have bc:gH=true:=by simp;omega
  have az:(aj++[(l.1,l.2)]).ed=false:=by clear h bc;cases aj<;>rfl
  simp only [bc,if_true,az,bl.fs,fD];simp) cm [] cd (by simpa using bs)]
 simp
mutual
section
variable {S:I}{ab:Tb}{z:b dE}
set_option tactic.hygienic true in
theorem alu dG a7 bM gq eQ{kM:jV}{aG:M} cp(m₀:kR S D kM aG)(f₀:FR ay z A jF kM aG)(ap:aG.w.x<=j) eL bi aW a6(bF:qf eP ks O V):
  ∀b6 eR b7 bN gr ct {y:cC->aL->Prop} c3 {bC:b jD} {aN:b ax} {aO:b J},
  aX kM aG m a.g->a1 m n a.g->j∉a5 m->jR m a.g bC aO->aN.r=aO.r->a.g.bm bw j gI->(aN++V).b_->aO.r+O.r<=100->lP ab z O jF o n=e s->
  (∀E X aB au t tk,aX kM aG aB t->a1 aB au t->j∉a5 aB->jR aB t (bC++E) gJ->t.bm bw j ((aN++V).aE gJ)->X.r=O.r->o E au=e s->y ⟨⟩ c4)->
  nF s kM {a with g:=aG} K->
  an q.N D (forIn gs cC.unit λ(l:a9 J×a9 J) (G:cC)=>(do let kv<-l.1;let vd<-fC [kv] l.2;fC [kv,vd] (dictSet j kv vd);bv (d0.eC cC.unit):a9 (d0 cC))) y K a:=by
 induction bF with
 |aw=>intro W m n a o s y K bC aN aO k p R rv av Y nd hsz L l aa;exact aD (l [] [] m n a.g a.ah k p R (by rw[b.cF,b.cF];exact rv) (by rw[b.cF,b.cF];exact Y) rfl L)
 |aq az _ ih=>
  rename_i k _ _ _ _ O V _;intro W m n a o s y K bC aN aO qt p R rv av Y nd hsz L l aa;rw[show ∀c,b4 A ad gc cy=(d6 A cV,do let k<-eval c A;eu ad;bv k)::b4 A ad V O from λG=>rfl,b.d8];refine F (F (Qh (A:=A) ?_));refine F dK;refine F (cS (az.aj (a:=bO) (m₀.ext qt) (f₀.ext qt) p L (λv Q j9 b5 ao t1 x1 aF F9 T=>?_) (aa.dd (eA:=a.ah+1) qt)) gt λG G af=>af);refine F gu;have a3:ao.bm bw j gI:=let ⟨f,es',cH,R,s⟩:=Y;⟨f,es',cH,F9.2 rfl _ _ R,s⟩;have pe:j∉a5 j9:=let ⟨_,_,_,bS,_⟩:=Y;x1.pP bS R;refine F (ds (wpAny_dictSet_pairs (a:=e1) (knd:=ae.cQ q.cO q.Q) (o:=k) (hsz:=by rw[b.ei,et];omega) (by simp [ae.cQ,J.fJ]) a3 λP ce cf=>aD ?_));have hxn:k∉(aN.aE aO).am c1:=by rw[b.em (I.fK av)];exact λY=>(b.ep.mp nd).2.2 k Y k b.fO rfl
  rw[ex hxn,show aN.aE aO++[(k,Q)]=(aN++[k]).aE (aO++[Q]) from by rw[b.zip_append av];rfl] at ce;have nZ:pY cq ao:=λd al=>by rw[b.ck] at al;clear ap ih R Y l pe ce cf;subst al;exact ⟨bq,Qz a3⟩
  obtain ⟨xv,aQ⟩:=aF.v nZ (by rw[cf.1];exact I.ef _) (λd f c al=>M.bT.extBut cf d f (by simpa using al) c) (λv cg=>by rw[b.ck] at cg;clear ap bq ih R Y l a3 ce cf nZ;subst cg;exact pe);have x2:aX kM aG j9 P:=(((qt.aH x1).Q []).CQ xv λv cg=>by rw[b.ck] at cg;clear bq ih R Y l a3 pe ce cf nZ xv;subst cg;exact ap).ext dy;rw[b.df] at nd;refine ih (bC:=bC++[v]) (aN:=aN++[k]) (aO:=aO++[Q]) x2 aQ pe (((rv.ext x1).snoc F9.1).mv nZ xv.mv) (by simp [av]) ce nd (by rw[b.fL,I.add_assoc];rwa [b.length_cons,I.add_comm O.r] at hsz) T (λE X qK σ3 bH t3 x3 fv BX Ad BW hl3 fn=>?_) aa;rw[<-b.df,<-b.df] at Ad BW;exact l (v::E) gv qK σ3 bH t3 x3 fv BX Ad BW (cb dA hl3) fn
theorem ack bi cZ aW a7 a6 gx(J7:ks.r=17)(hnd:V.b_):kI S ab z gy:=by refine bL;intro W D A ay jF m n a o s y K C U p L l aa;obtain ⟨x0,dk,hd0,cK⟩:=Tc p;rw[fg,j.es,ahc _ ((j.LA A ad).aH J7)];refine F (du cu);unfold dr;refine F (f1 (F dK));rw[fE (by rw[j.LA,J7];decide)];refine F (wpAny_rule cu);refine alu (D:=D) (j:=a.g.w.x) C U dI p.a_ j (a:=gz) (bC:=[]) (aN:=[]) (aO:=[]) x0 dk hd0 .aw rfl cK hnd (by rw[j.bf.2,<-j.bf.1,J7];decide) gA (λE X j9 b5 ao t1 x1 aF pe F9 a3 hl1 T=>?_) aa;obtain ⟨_,T⟩:=Pr T;obtain ⟨aB,au,x2,aQ,v_,ar⟩:=Qy (t:=ao) aF (M.bT.refl _ _) a3 a3 pe p.a_ F9 (j.VS hl1) (j.bf.2.symm.aH hl1.symm) T x1 dI;exact aD (aD (aD (l _ _ aB au ao _ x2 aQ v_ ar)))
end
end
mutual
section
open ae.bx ae.bB
set_option tactic.hygienic true in
theorem UY bM bN c3 cp{od:a2} dL{tk:Tok} c0{O:b fb} gK gL(aJ:a.g.B j=e od)(av:(ek name od).fI=true)
  (e':(a2.cP name bP bQ v od).data= .aP O.bh C)(bt:O.r<=1000)
  (h:y (.done eV) {a with g:=a.g.aC j gM,ah:=a.ah+1}):
  an q.N D (a0.bo.ev j (.str name tk) name v) y K a:=by
 have D':(a.g.aC j gM).B j=e (a2.cP name bP bQ v od):=
  M.dl _ aJ (by generalize a2.cP name bP bQ v od=f at e'⊢;obtain ⟨_,_,bF,_⟩:=f;cases e';rfl)
 refine F (aD cu);unfold nsSet;refine F (F (wpAny_askSetting (aD (F (wpAny_mkText (F (f5 aJ ?_)))))));unfold ek at av
 split at av
 ·rename_i BL n₀ i;rw[i];dsimp only;have bU:(!BL.any (·.key.isStr name)&&BL.any (·.fX))=false:=by
   rw[<-cA.fe,<-cA.fe]
   split at av
   ·rename_i bb az;rw[b.fd.bJ ⟨bb,b.mem_of_find?_eq_some az,b.find?_some az⟩];rfl
   ·split at av
    ·cases av
    ·rename_i af;rw[bl.not_eq_true] at af;rw[af,bl.and_false]
  rw[aRefKeyMayBeTheName_at,bU];refine wpAny_updatePart aJ ?_;refine F (wpAny_lookBehind D' (by rw[e'];exact pastItsLine_dict (by rw[b.size_toArray,et];omega)) ?_);exact aD h
 ·cases av
structure yO(ag:Frag):Prop where
 sa:bG ag aV "__setattr__"=e (e gO)
 hT:bG ag aV "__getattribute__"=e (e (.d4 "BaseException.__getattribute__"))
 hU:bG ag aV "__getattr__"=e none
 qF:bG ag aV "symbol"=e none
 fl:bG ag aV "data"=e none
 di:∃ba,clsIn ag 38=e ba/\ba.hasDict=true/\ba.mro=dM
 ty:ez ag aV=e (.aA "type")
theorem as3:d5 "Exception" "__setattr__"=none:=bk
theorem as1:d5 "BaseException" "__setattr__"=none:=bk
theorem as5:d5 "object" "__setattr__"=e gO:=bk
theorem asK:a0.bo.isObjects "object" "__setattr__"=true:=bk
theorem an1(self:J):fY self IU dM=bv ():=bk
theorem fA:(if (dM:b J).ed then none else e ((dM:b J).d7 dN))=e true:=bk
theorem amV:builtinKind "object.__setattr__"=e Manifest.AttrKind.slot:=bk
theorem amW:splitId "object.__setattr__"=e ("object","__setattr__"):=bk
theorem Q2 bM bN c3 eW{k:aI}{ox:a2}{od:aT a2} dL c0 c6 cv(d1:InstAt a.g k ox 38 od)
  eX
  (h:an q.N D.in1 (do match<-a0.bo.fU bj with|e j=>a0.bo.ev j bQ name v|none=>a0.bo.noDictFor bj aV name false)
   gP gQ bO):
  an q.N D (er bj name v) y K a:=by
 refine set_plain z d1 nQ.sa ?_;replace h:an q.N D.in1 (a0.bo.storeInOwnDict bj aV bQ name v false) gP gQ bO:=h;obtain ⟨ba,aR,_,Y⟩:=nQ.di;refine codeAny_call_builtin ae.aK.slot_object_setattr.plain ae.aK.entry_object_setattr ?_;have bW:=el (N:=q.N) z aR;obtain ⟨aM,hcl,hno,hdi⟩:=d1;have hsub:bz q.N a.g (isSubtype aV dN) true:=looks_mroIn z (by unfold mroIn;rw[aR];show (if ba.mro.ed then none else e (ba.mro.d7 dN))=e true;rw[Y];exact fA);have hty:bz q.N a.g (fZ bj) aV:=λD y K s' o i=>f6 (o _ _ aM) (by rw[hcl];exact i);have ak:=ae.aK.args_object_setattr_3 bj bQ v;have hin:bz q.N a.g (fH bj dN) true:=hty.de hsub;refine check_slot (N:=q.N) (D:=D.in1) (a:={a with ah:=a.ah+1}) (hV:="object.__setattr__") (self:= .ai k) (bK:=[.str name a.ah,v]) (kw:=[]) amV amW hin ak ?_;rw[osa_eq];have href:bz q.N a.g (a0.bo.refuseIfOverridden bj IU) ():=by show bz q.N a.g (fZ bj>>=λtp=>mroOf tp>>=λbe=>fY bj IU be) ();refine hty.de ?_;refine bz.de (d:=()) (bW.de (d:=ba.mro) bz.now) ?_;rw[Y,an1];exact bz.now
 refine F (href _ _ _ _ c5 (F (hty _ _ _ _ c5 (F (looks_findIn (N:=q.N) z bX _ _ _ _ c5 ?_)))));refine F (aD (cS h (λfin s' i=>?_) λG G i=>i));obtain ⟨rfl,i⟩:=i;exact i
end
mutual
section
open ae.bx ae.bB
mutual
section
variable {D:dV}{a:aL}{K:J->aL->Prop}
theorem aik c7 cw cx gR c6 cv eZ
  (h:y (e a.g.w.x) {a with g:=(a.g.Z bp).aC c λf=>bR}):
  an q.N D gS y K a:=by
 obtain ⟨ba,aR,ap,_⟩:=nQ.di;have bW:=el (N:=q.N) z aR;refine F gT;refine F gU;rw[ap];refine F (f1 ?_);refine F (wpAny_update (f:=eY) gV ?_);exact aD h
theorem aim gW cw cx gR c6 cv gX
  (h:y (e j) a):an q.N D gS y K a:=by
 obtain ⟨ba,aR,ap,_⟩:=nQ.di;have bW:=el (N:=q.N) z aR;refine F gT;refine F gU;rw[ap];exact aD h
theorem Uq dG{C:ax->aT J}{Gd k aZ:ax} c7{Q:J}{p1 p2 p3 p4:cD}{y:Flow->aL->Prop}(br:A.cn.ee= .ft)(ao:A.bd Gd=e .local)(P:A.bd aZ=e .local)(n1:(Gd==gY)=false)(n2:(aZ==gY)=false)
  (Y:a.g.Ns A.ej C)(m1:C Gd=e dO)(m2:C aZ=e Q)(h:an q.N D (er dO k Q) (λG s'=>y .next s') K a):
  an q.N D (exec (.dW [.dX (.bn Gd p1) k p2] (.bn aZ p3) p4) A) y K a:=by
 refine BN (λG G G=>rfl) rfl rfl (f0 (f4 br P Y m2 ?_) n2);rw[arm_assign_Attribute];refine F (ds (f0 (f4 br ao Y m1 ?_) n1));refine F (du (F (ds (cS h (λG s' i=>?_) λG G af=>af))));exact wpAny_release i
theorem amn c7 eS cw cx cp(R:h.B c=e eY):(h.aC c λf=>{f with aP:=e j}).B c=e e0:=
 M.dl _ R rfl
theorem atd(h:M)(H:aI)(U:a2->a2):(h.aC H U).w.x=h.w.x:=(M.bT.aC h H U).1
theorem aih c7 cw cx dL c0 eW c6 cv eZ eX
  (h:∀t C bg tk,g0->t.w.x=a.g.w.x+1->t.B c=e g1->
   t.B a.g.w.x=e ⟨.aA "dict",none,.aP [g2].bh C,#[]⟩->y () c4):an q.N D g3 y K a:=by
 refine Q2 z nQ (od:=none) ⟨R,rfl,rfl,trivial⟩ bX cu;have cJ:=M.cj R;have bc:c≠a.g.w.x:=I.cl cJ;have X':q.ag.In a.g:=z;refine aik (a:=bO) X' nQ R ?_;have d2:((a.g.Z bp).aC c λf=>bR).B c=e g1:=amn gV;have as:=M.bT.aC (a.g.Z bp) c λf=>bR;have db:((a.g.Z bp).aC c λf=>bR).B a.g.w.x=e bp:=by rw[as.2 _ (λi=>bc i.symm)];heap_get
 have bt:((a.g.Z bp).aC c λf=>bR).w.x=a.g.w.x+1:=by rw[as.1,M.dq]
 have o:∀d f,a.g.B d=e f->d≠c->((a.g.Z bp).aC c λf=>bR).B d=e f:=λd f i al=>by rw[as.2 d al];exact M.bV _ i
 show an q.N D.in1 (a0.bo.ev a.g.w.x bQ name v) _ _ {a with g:=(a.g.Z bp).aC c λf=>bR,ah:=a.ah+1};generalize ((a.g.Z bp).aC c λf=>bR)=P at d2 db bt o⊢;obtain ⟨n',tM⟩:=fV name bP dQ v g4 none #[] 0 #[];refine UY (a:={a with g:=P,ah:=a.ah+1}) db rfl g5 (by simp [sI]) e2;have uO:=M.bT.aC P a.g.w.x dR;have fc:(P.aC a.g.w.x dR).B a.g.w.x=e ⟨.aA "dict",none,.aP [g7].bh n',#[]⟩:=by rw[M.dl _ db g8,tM];rfl
 refine h _ n' dP _ (λd f i al=>?_) (by rw[uO.1,bt]) ?_ fc
 ·rw[uO.2 d (I.cl dS)];exact o d f i al
 ·rw[uO.2 c bc];exact d2
theorem ail gW cw cx dL c0{bb:fb} gK eW c6 cv gX eX
  (ap:a.g.B j=e g_)(ao:bb.key.isStr name=false)(P:bb.fX=false)
  (h:∀t C bg tk,(∀d f,a.g.B d=e f->d≠j->t.B d=e f)->t.w.x=a.g.w.x->
   t.B j=e ⟨.aA "dict",none,.aP [bb,g2].bh C,#[]⟩->y () c4):an q.N D g3 y K a:=by
 refine Q2 z nQ (od:=e g_) ⟨R,rfl,rfl,ap⟩ bX cu;refine aim (a:=bO) z nQ R ?_;obtain ⟨n',tM⟩:=fV name bP dQ v g4 none [bb].bh C #[];have dm:sI name bP dQ v [bb].bh.toList=[bb,g7]:=by simp [sI,ao]
 rw[dm] at tM;refine UY (a:=bO) ap (by simp [ek,ao,P]) g5 dy e2;have uO:=M.bT.aC a.g j dR;refine h _ n' dP _ (λd f i al=>(uO.2 d al).aH i) uO.1 ?_;show (a.g.aC j dR).B j=_;rw[M.dl _ ap g8,tM]
end
end
mutual
section
open ae.bx ae.bB
structure IT(ps:b Arg)(aU:b Stmt)(sc:Scope):Prop where
 ok:wH sc ps
 a4:ps.am c8=[IV,rq,vC]
 b1:sc.a4.b2 IV=e .local/\sc.a4.b2 rq=e .local/\sc.a4.b2 vC=e .local
 aU:∃p1 p2 p3 p4 oM sH qC qD,aU=[.dW [.dX (.bn "self" p1) "symbol" p2] (.bn "symbol" p3) p4,.dW [.dX (.bn "self" oM) "data" sH] (.bn "data" qC) qD]
theorem ain hc bM bN{ps:b Arg}{aU:b Stmt}{sc:Scope} c7 cw cx{H d:J} hd dB cv(sd:IT ps aU sc)(aK:FnAt 35 ps aU sc [])
  (bD:∀d f,q.aG.B d=e f->a.g.B d=e f)(az:b9<=c)(hroom:D.depth<recursionLimit) eZ
  (h:∀t C j bg t' tk,g0->a.g.w.x<=j->a.g.w.x<=t.w.x->t.B c=e e0->
   t.B j=e ⟨.aA "dict",none,.aP [⟨cE.cM q.Q.cN "symbol",.str "symbol" bg,H⟩,⟨cE.cM q.Q.cN "data",.str "data" t',d⟩].bh C,#[]⟩->W (.ok eV) c4):
  fi q.N D (.dh e3 ⟨[.ai c,H,d],[]⟩) W a:=by
 obtain ⟨f,cc,kd,hR,bS,hdata,dm,hbody,bZ,uN,hclo,hbi,bW,hdf⟩:=aK;obtain ⟨p1,p2,p3,p4,oM,sH,qC,qD,rfl⟩:=sd.aU;have J9:cc.defaults= .none:=by
  rcases hdf with ⟨_,i⟩|⟨_,_,_,_,_,i,_⟩
  ·exact i
  ·cases i
 have ok:=sd.ok;have hfr:=bD _ _ bS;refine codeAny_call_function hroom hfr hdata (by rw[bZ];exact ok.hQ) (by rw[bZ];exact ok.gen) hbody (bW.ci bD) ?_;have bs:ps.r=[J.ai c,H,d].r:=by rw[<-b.eh (U:=c8) (aN:=ps),sd.a4];rfl
 refine Jt (f:=none) dm ok.xT bs (λQ' i=>by rw[J9];exact aD i) ?_;rw[hclo];have Fq:∀k∈(ps.am c8).aE [J.ai c,H,d],cc.cn.a4.b2 k.1=e .local\/(cc.cn.a4.b2 k.1=e .cell/\((cellsFrom c9 cc.cn.a4 []).b2 k.1).fI=true):=λk aM=>by
  rw[sd.a4] at aM;rw[bZ];simp only [b.eD,b.zip_nil_right,b.fN,b.fT,or_false] at aM;rcases aM with rfl|rfl|rfl
  ·exact .inl sd.b1.1
  ·exact .inl sd.b1.2.1
  ·exact .inl sd.b1.2.2
 refine wpAny_newFunctionEnv_cells (by rw[bZ];exact ok.dj) Fq λA Ka s₁ z=>?_;obtain ⟨bu,tk,rfl⟩:=z.ey.eq;have cL:=z.ey.ns;have o:∀d f,a.g.B d=e f->bu.B d=e f:=z.ey.keep;have d9:A.ej=a.g.w.x:=by rw[Ka];rfl
 have br:∀k,A.bd k=sc.a4.b2 k:=λk=>by rw[Ka,<-bZ];rfl
 have dn:(((ps.am c8).aE hg).am c1).b_:=by rw[b.em (by rw[b.eh,bs];exact I.ef _)];exact ok.xT
 have m1:=Ew (bd:=A.bd) (C:=λG=>none) (k:=IV) (Q:= .ai c) dn e4 e5;have m2:=Ew (bd:=A.bd) (C:=λG=>none) (k:=rq) (Q:=H) dn e4 hi;have m3:=Ew (bd:=A.bd) (C:=λG=>none) (k:=vC) (Q:=d) dn e4 hj;generalize bindL A.bd ((ps.am c8).aE hg) (λG=>none)=C at cL m1 m2 m3;have hfn:A.cn.ee= .ft:=by rw[Ka];show cc.cn.ee=_;rw[bZ];exact ok.dj
 have Js:∀d f,q.aG.B d=e f->bu.B d=e f:=λd f i=>o d f (bD d f i);have bt:a.g.w.x<bu.w.x:=by obtain ⟨o1,T,_⟩:=qT cL;rw[d9] at T;exact M.cj T
 have cJ:=M.cj R;refine ⟨aJ.Tt.ci Js,codeAny_func ?_⟩;refine f3 (Uq (a:=hk) hfn e5 hi rfl rfl cL m1 m2 ?_);refine aih (a:=hk) (aJ.rI.ci Js) nQ (o _ _ R) nQ.qF λP n2 t2 ap3 k2 z2 ar fj=>?_;replace k2:∀d f,bu.B d=e f->d≠c->P.B d=e f:=k2;have Et:∀d f,q.aG.B d=e f->P.B d=e f:=λd f i=>k2 d f (Js d f i) (I.cl (I.lt_of_lt_of_le dS az));have ajy:P.Ns A.ej C:=La cL λf i=>⟨f.slots,k2 _ _ i (by rw[d9];exact I.ne_of_gt cJ)⟩;refine f3 (Uq (a:=hl) hfn e5 hj rfl rfl ajy m1 m3 ?_);refine ail (a:=hl) (aJ.rI.ci Et) nQ ar nQ.fl fj rfl rfl λbH n3 t3 ap4 k3 rY fk=>?_;replace k3:∀d f,P.B d=e f->d≠bu.w.x->bH.B d=e f:=k3;replace z2:P.w.x=bu.w.x+1:=z2;replace rY:bH.w.x=P.w.x:=rY;refine wpAny_execs_nil ?_;refine h bH n3 bu.w.x t2 t3 ap4 (λd f i al=>k3 _ _ (k2 _ _ (o _ _ i) al) (I.cl (I.fM dS bt))) da da (k3 _ _ ar (I.cl (I.fM cJ bt))) fk
end
mutual
section
open ae.bx ae.bB
noncomputable def LN(bU:J)(bg:aI):a2:=⟨bU,none,.cI #[.ai bg,.none,.none,.none,.bool false,.none],#[]⟩
theorem aqp hm hn bM c3 bN ho hp hq hr hs ht hu hv hw
  hx hy hz hA hB hC gL hD hE
  hG hI hJ
  (h:an dT D hK (λs s'=>s= .none/\y (.done hL) s') K e8):
  an dT D (a0.«type.__call__» hM) y K a:=by
 unfold a0.«type.__call__»;dsimp only;refine dt cz cu;show an _ _ e9 _ _ _;refine F ?_;show an _ _ e9 _ _ _;refine F (e_ aY (aD dJ));refine dt cz ?_;refine F (wpAny_madeBy_exc aY ?_);refine F dJ;refine F dK;refine f2 (codeAny_call_builtin_code (Code.fW _ aK.quiet) (wpAny_check_new_sub aK aY (codeAny_exc_new_sub aK aY ?_ ec)));show an _ _ (fH e7 b8>>=_) _ _ e8;have o:∀d f,a.g.B d=e f->((a.g.Z dU).Z c_).B d=e f:=λd f c=>M.bV _ hN;have aM:((a.g.Z dU).Z c_).B c9=e c_:=M.fw hO rfl;generalize ((a.g.Z dU).Z c_)=P at o aM h⊢;have X2:ag.In P:=z.ci o;refine F (F (f6 (f:=LN b8 a.g.w.x) aM (wpAny_isSubtype_exc (h:=P) (o _ _ aY) ?_)));have aR:(J.ai q::dg).d7 b8=true:=by simp
 rw[aR];refine dt cz ?_;refine F dK;refine special_fn (a:=hP) X2 (od:=none) ⟨aM,rfl,rfl,trivial⟩ ea bI (cS h (λs s' i=>?_) λG G af=>af);obtain ⟨rfl,i⟩:=i;exact dt cz (aD i)
theorem ap0:"type.__call__".startsWith "lifetime."=false:=bk
theorem fh hm hn bM bN ho hp hq hr hs ht hu hv hw
  hx hy hz hA hB hC hd hD hE
  hG hI hJ
  (h:an dT (D.under (.d4 "type.__call__" hM)) hK (λs s'=>s= .none/\W (.ok hL) s') (λc s'=>W (.error c) s') e8):
  fi dT D (.dh b8 ⟨bK,[]⟩) W a:=by
 have fp:=tc_lookup;have fq:=tc_bind (J.ai q);have fz:a.TypeIs b8 "type":=⟨_,aY,rfl⟩;refine codeAny_of_tree ?_;refine F ?_;refine e_ aY ?_;show an _ _ e9 _ _ _;refine F (wpAny_specialOf fz fp ?_);refine F (wpAny_of_eq fq ?_);refine F ?_;refine aD ?_;refine wpAny_ite_true cz ?_;refine aD e2;refine codeAny_call_builtin_at (Code.fW _ ap0) entry_typeCall (wpAny_check_type_call_sub aY ?_);exact aqp aK z aY ea bI ec h
end
mutual
section
open ae.bx ae.bB
theorem oH.ap5 f7{H:aI}{C:b jD->N jD}(aK:oH S H C):yz S H C:=⟨λrP p rv c l aa=>aK.dh rP p rv c l aa⟩
structure Bl:Prop where
 fu:yO q.ag
 cls:∃nm i cB a_ sn cR ca cG bF k0 k1 k2 k3 k5,q.aG.B 38=e (fo nm i 38 cB a_ [.aA "Exception",.aA "BaseException",.aA "object"] true sn cR ca cG bF k0 k1 k2 k3 k5 "Exception.__new__")
 fF:bG q.ag aV "__init__"=e (e e3)
 dj:ez q.ag e3=e hH
 aU:∃ps aU sc,IT ps aU sc/\FnAt 35 ps aU sc []
theorem aij b6 b7 dF eT ct(c:bE (k9 38 zo E) o n=e s):
  ∃H d,E=[H,d]/\o cs f9=e s:=by
 have key:∀k au,k9 38 zo E n=e (k,au)->∃H d,E=[H,d]/\k= .ok cs/\au=n++dv:=by
  intro k au c;unfold k9 at c;obtain ⟨_,c⟩:=qw c;have as:eF[n.r]?=e (.ch 38 []):=by simp
  rcases E with _|⟨H,_|⟨d,_|⟨bU,E⟩⟩⟩
  ·cases c
  ·cases c
  ·refine ⟨H,d,rfl,?_⟩;have Kf:(n++eE).set n.r f_=n++dv:=by
    rw[b.set_append_right _ _ dI];simp
   have aM:zo [.obj n.r,H,d] eF=e (.ok .none,n++dv):=by show (match eF[n.r]? with|e (ko.ch 38 [])=>e (dZ.ok jD.none,(n++eE).set n.r f_)|_=>none)=_;rw[as,<-Kf];rfl
   unfold bE at c;rw[aM] at c;cases c;exact gd
  ·cases c
 unfold bE at c;cases h:k9 38 zo E n with
 |none=>rw[h] at c;cases c
 |e i=>obtain ⟨k,au⟩:=i;obtain ⟨H,d,rfl,rfl,rfl⟩:=key k au h;rw[h] at c;exact ⟨H,d,rfl,c⟩
theorem aio f7 hc dB(p5:Bl):oH (S+1) 38 (k9 38 zo):=by
 refine dH;intro D m n a E X s y rP p rv c l aa;obtain ⟨H,d,rfl,ar⟩:=aij (o:=ret) (s:=s) (by unfold bE;rw[c];obtain ⟨k,au⟩:=s;clear c l aa;cases k<;>rfl);obtain ⟨wa,wb,rfl,ra,rb⟩:∃wa wb,X=[wa,wb]/\jG m a.g H wa/\jG m a.g d wb:=by
  cases rv with
  |aq ra rv=>cases rv with
   |aq rb rv=>cases rv with
    |aw=>exact ⟨_,_,rfl,ra,rb⟩
 obtain ⟨nm,i,cB,a_,sn,cR,ca,cG,bF,k0,k1,k2,k3,k5,aY⟩:=p5.cls;obtain ⟨ps,aU,sc,b9,aK⟩:=p5.aU;have z:=aJ.rI.ci p.bD;refine fh ae.aK.excBase_Exception z (p.bD _ _ aY) p5.fF p5.dj (by rw[et];simp) ?_;have k0:∀d f,a.g.B d=e f->((a.g.Z dw).Z cT).B d=e f:=λd f c=>M.bV _ hN;have aM:((a.g.Z dw).Z cT).B c9=e cT:=M.fw hO rfl;have bt:((a.g.Z dw).Z cT).w.x=a.g.w.x+2:=by rw[M.dq,M.dq]
 generalize ((a.g.Z dw).Z cT)=P at k0 aM bt⊢;have ai6:=p.a_;refine f2 (ain (a:=hP) (c:=a.g.w.x+1) aJ p5.fu b9 aK (λd f i=>k0 d f (p.bD d f i)) (I.le_trans ai6 (I.eg _)) ?_ aM λt C j bg t' tk kk ap BZ az xx=>?_)
 ·have:=(rP.under 38 [wa,wb]).hS;omega
 replace kk:∀d f,P.B d=e f->d≠a.g.w.x+1->t.B d=e f:=kk;replace ap:P.w.x<=j:=ap;replace BZ:P.w.x<=t.w.x:=BZ;have o:∀d f,a.g.B d=e f->t.B d=e f:=λd f i=>kk d f (k0 d f i) (I.cl (I.lt_succ_of_lt dS));have k:aX m a.g eG t:=by
  refine ⟨⟨_,rfl,?_⟩,da,λd f c G=> .eq (o d f c)⟩;intro af Y;simp [a5] at Y;rcases Y with rfl|rfl
  ·exact I.eg _
  ·omega
 have hi':vO 38 j ⟨.ai 38,e j,.cI #[.ai a.g.w.x,.none,.none,.none,.bool false,.none],#[]⟩:=⟨rfl,rfl,_,rfl,rfl⟩;have g':a1 eG f9 t:=by
  refine p.snoc k (λd f c=>o d f gk) (λaf ak=>by obtain ⟨f,c⟩:=p.alive ak;rw[c,o af f c]) ?_ ?_ (.ch az hi' xx (.aq (ra.ext k) (.aq (rb.ext k) .aw)) dy)
  ·intro af Y;simp at Y;rcases Y with rfl|rfl
   ·exact I.eg _
   ·omega
  ·have:a.g.w.x+1≠j:=da
   simp [this]
 have rx:jG eG t cs e7:= .obj (l:=ga) gl;exact ⟨rfl,l _ _ _ _ t tk k g' rx ar⟩
end
end
mutual
example _ ζ H X h e a n p some T x rec TabOk h1 j_ List fn h2 b f u v[by rfl]P s[by kernel_rfl]pos O c o mp nx t q Nat i yes es r m C l g no heap Expr bd M Q ks y[λa=> .R]_ _ _ _ _ _ _ _ _ _ _ Bool h' ac h3 it d e1 wpAny_bind A elt hm w σ1 E h4 hp ifs env hc «at» hi rest F k ρ' K gd Str z U cls ev hs mono Value fl ones Option hf wpAny[aB×kN](e:T)Pos R W e2 ha id j Addr Name PySem cons h7 hn ops ref s₁ toks[.e c e]bnd hk Call D G Looks ft_ g1 head run Return Shared all b2 cn gs h5 hl hr h₀ keepIn obj ret[λe=>l a7][.e c D]Stmt and_eq_true_iff «by» b1 beq ca h6 hd he keep nil trans type[.a4 f]{aw:Tab}(B:m g aw)[.aY C p2](c:p aO)[ck ?_]Constant ListComp a1 hB hfr hty list mpr whole[.a4 38]{aR:Type}{ai:eg}[.a4 e](j:Tb)(ba:q6 j)Assign B Calls SeqAt apos bi con cp eq_of_beq_eq_true expr f1 get? inj inl inr length wpAny_ite_false wpAny_pure{f:aX}[g+1][.a4 k](Q:bb ρ σ y.S)[{y with S:=ab,a6:=tk}]{y:bi}[.str qF]{an:aI->bi->Prop}(nQ:yO O.az)(g:I)[oj j c k]{e:T}(A:aQ)(d:kI g j c e)[.dt 39 aJ]not_eq_true' Attribute Comprehension Dict ExceptHandler Fast a2 a3 a4 as base cd d1 error fs gl hh hx names pure stands{N:I}(ak:g<=N)(b:HS){ρ:jV}(t:FR aS c ar jF ρ y.S)[.a4 Y][[.a4 38,.bI "Exception",.bI "BaseException",.bI "object"]](f:o x)(G:T)[λa=>none][e::L][[.aY k h]][.G c G][ajL r][ni g j c (.b4 [G] e A)][by decide]rest' Heap I Scope a5 absurd alloc andThen bo co contains enumerate getAttr glob «do» hC hb ho hz inst isEmpty lookIn mem_cons_self range slot typeOf wpAny_Return_some wpAny_execs_cons wpAny_holding wpAny_ite_true wpAny_standAt(st:bw)[.s c s][.a4 J][nomatch d]{st:bw}{oW:p jD}[Mine.Internal.tb aw][Tq w]{σ:jE}{J:I}(aU:j4 f rq=true)(bo:lk aJ f=i al)[.dn 38][(.ok v,am)][[.str qF,al]]{jF:jL}{ar:Env}(au:lk c nm=i (.dy J false)){x:Prop}{c:p aO}{sc:dd}[d _ p.dw][p.eO _ bE]{k:aB}[.a_ (.aY k h) args [] A][f::M][.bI "BaseException"][ac7 g j aW](args:p T)[b8.endLine==A.line][.H c e](k:aB)(h A:aQ)[kI g j c (.ek D J A)][.e c P][pI g j c e][aeK ad][by omega]Around Builtin Compare Except Subscript add_le_add_left add_le_add_right and_eq_true argsOk bindSpecial builtin call_plain cl congrArg d2 findIn foldedSetIterable forall_mem_cons forall_mem_singleton fr function fx g2 getElem?_eq_some_iff hE hq hv hy isExcClass isInstance le_of_ble_eq_true le_succ le_trans looks_findIn mem_cons_of_mem mul_le_mul_left ne_of_beq_eq_false not_mem_nil ofString raiseStmt setFlight toArray wpAny_Try_except wpAny_items_cons wpAny_typeOf_ref[ni g j c st][[.cE (i bl) (i n1) [y] qb]]{t:p jD->V jD}[⟨λM Q rv e h jK=>aw.bg (M.less ak) Q rv e h jK⟩][.eq "BaseException.__getattribute__"][tb aw](d:oX s7 C k=i f){d:db}[λh H=>ap h (p.eO _ H)][b.Rm aw]{W:aI->bi->Prop}{N:p jD->V jD}[g+2][I.eL _]{f:I}[λh=> !I.bA h.2 f](b:Gx){cc:aa}(aG:Lj (B.tb b.bf) b.bf.xc st=true)[B.bg b.bf aG aM.cU][{y with a6:=y.a6+1}][bU _ _ _ _ aV ?_][by decide+kernel][aB×jD]{f:aB}{k:aL kN}{M:ej jD aR×jE}[E_ k&&E7 Y]{ax:jD->V aR}[EP k f][.bV [.str qF,v]]{aS:p aX}{σ am:jE}{v:jD}{W an:aI->bi->Prop}(N:kR g ai ρ y.S)[eval e ar][aT▸Q][.dy J false][.bs aW](a2:σ[aW]?=i cz)[σ++[.bV dT]][.bs σ.ci][.aY nm oM]{W:Flow->bi->Prop}[.p [.bP cr kd p3,.cB fF f sH] qC][{y with a6:=tk}][[ar.locals]][ag.symm.bH e](p5:Bl)[ar::cO][i bM][i nm][{y with S:=ad}][[.bh (i e) p1]]{x W:Prop}[ax _ _ bE]{α:Type}(sc:dd)(ae:T){ae:T}{L:p T}(D:aL Bn){h A:aQ}{args:p T}(jF:jL)[.aY k h][nQ.sub c alW](P:p T)[IF j c P][∀ar k,ew e ar k=cT k][dC ?_][yG e][D7 e][[y,G,u]][uw G][.cB D f b8][.a_ t args X A][.a_ t args [] A]{A:aQ}[aL T](X:p gf)(L:p T)[i e][lR c sc.cS (width c)](aj:T)(aq:p T)(av:p cC){aj G ae:T}{aq:p T}{av:p cC}(d:yD g j c aj sc G ae aq av)[⟨G,ae,aq,0⟩::av][⟨?_⟩][λa af=>af][[.a_ t cJ X H]][[.a_ (.aY Y M) cJ X H]][alo d][acr B.aA][Bh aG][λa=>rfl](D:T)(J:T)[.e c J][kI g j c e][Bh d][Q::av][Bh bC][.G c e][pH g j c true e][λe=>l d9][OY d][am.set J cz][r4 g j c aj aD lX tf G aq av][.bs J][constantsAlone 8](p1 A:aQ)(n1:aB)(qb:aQ)(bl:T)(s:bw)[i bl][i n1][x1.al aS]bs cq d3 dp en ex f2 fo ga gt:True:=x
mutual
section
open aZ.b6 aZ.b7
mutual
section
variable {g:I}{j:Tb}{c:p aO}
theorem alW:(if (c1:p aI).du then none else i ((c1:p aI).dk d5))=i true:=z
theorem yO.sub{az:Frag}(nQ:yO az) e6{V:Model}(c:az.In d){s:aI}{M:aa}(bp:(if (c1:p aI).du then none else i ((c1:p aI).dk s))=i M):
  bc V d (isSubtype bY s) M:=by
 obtain ⟨cL,as,_,ak⟩:=nQ.es;refine looks_mroIn c ?_;unfold mroIn;rw[as];show (if cL.mro.du then none else i (cL.mro.dk s))=i M;rw[ak];exact bp
theorem anH b0 dV cq{k:Sem aI} fG cs{b5:db->Prop} ct(bS:∀d,b5 d->O.az.In d)(cQ:ai.handled=none)
  (d:aN O.V ai k (λv a5=>∃e oe vs,v= .a4 e/\b5 a5.S/\a5.S.ce e=i oe/\oe.aE= .a4 38/\oe.data= .fields vs/\vs[1]?=i .none/\an b1 a5) an y):aN O.V ai (eT ar (i k) none) W an y:=by
 unfold eT;refine ah (wpAny_mono d (λv a5 H=>?_) λa a aC=>aC);obtain ⟨e,oe,vs,rfl,dq,bE,as,bD,n,eE⟩:=H;have c:=bS _ dq;have bU:bc O.V a5.S (dz b1) bY:=λai W an s' ax H=>eY fS (by rw[as];exact H);have hit:bc O.V a5.S (isType b1) false:=λai W an s' ax H=>ah (wpAny_loadPart fS (ck (by rw[bD];exact H)));have hix:bc O.V a5.S (eI b1) false:=by unfold eI;exact hit.dh bc.now
 have hin:bc O.V a5.S (eJ b1 d5) true:=bU.dh f3;have aV:∀s D,a5.S.ce s=i D->a5.S.ce s=i D:=λa a e=>e;refine ah bO;refine ah f7;unfold excFromValue;refine ah (hix _ _ _ _ aV ?_);refine cj w ?_;refine ah (hin _ _ _ _ aV ?_);refine dD w bO;refine ah (hit _ _ _ _ aV ?_);refine cj w ?_;unfold raisedInstance;refine ah (ah (bU _ _ _ _ aV (ah (looks_typeIn (V:=O.V) c nQ.ty _ _ _ _ aV ?_))));refine dD w bO;unfold eU;refine ah (ah (wpAny_field bE bD n ?_));refine cj w bO;exact wpAny_raiseNew_none cQ eE
set_option tactic.hygienic true in
theorem acX cw ge b3 ct cy:ni g j c (.Raise gi none A):=by
 refine gs;intro aR ai ar cO aS jF ρ σ y kn kr l5 M W an N bT t tm Q aF h jK;have aF:kg j c e jF (λv=>oN v) σ=i M:=aF;rw[arm_exec_Raise];refine ah (dE ?_);refine anH (b5:=O.az.In) nQ (λa aC=>aC) N.bD ?_;refine ah (d.bg N t Q aF (λv al j9 am n t1 x1 be rv ag=>?_) jK.err);refine ah (dE bO);unfold oN at ag;cases v<;>try (cases ag;done)
 rename_i J;cases rv with
 |bs ap=>
  obtain ⟨D,dr,ro⟩:=be.bs ap;dsimp only at ag;rw[dr] at ag;induction ro with
  |@dt C aJ f af ob L nn bR cG cH cI de=>
   dsimp only at ag;cases as:I.bA C 38 with
   |false=>rw[as] at ag;cases ag
   |true=>
    rw[as] at ag;have as:=I.cb as;subst as;obtain ⟨bz,bk,vs,lK,o9⟩:=cG;have ds:1<vs.size:=by obtain ⟨aC,_⟩:=Array.eD.E o9;exact aC
    have eC:bb j9 gL n:=be.upd ap (.refl _ _) be.cK (λs dq=>rfl) (.dt bR ⟨bz,bk,vs,lK,ds⟩ cH cI de);dsimp only at ag;have bp:M=(.cN gN,am.set J cz):=by clear h jK aF;cases ag;rfl
    have au:J<am.ci:=(p.eD.E dr).1;have uM:qg j9 gL y.S n J f:=⟨af,ob,vs,aJ,ap,by simp [au],bR,bz,lK,ds,.cg o9⟩;exact ⟨f,ob,vs,rfl,ba.rI.keeps be.cK,bR,bz,lK,o9,jK J j9 _ n t1 f bp gW eC uM⟩
  |_=>cases ag
end
end
mutual
section
open aZ.b6 aZ.b7
mutual
section
variable {g:I}{j:Tb}{c:p aO}
theorem ahV:entryFor table "BaseException.__getattribute__"=i eh.«object.__getattribute__»:=by
 refine entryFor_alias (id':="object.__getattribute__") ?_ ?_ ?_ ?_
 ·kernel_rfl
 ·kernel_rfl
 ·kernel_rfl
 ·kernel_rfl
theorem akq:builtinKind "BaseException.__getattribute__"=i Manifest.AttrKind.dy:=by rw[builtinKind_eq_fast];kernel_rfl
theorem ao6:splitId "BaseException.__getattribute__"=i ("BaseException","__getattribute__"):=z
theorem am_:plainId "BaseException.__getattribute__"=true:=z
theorem afb(f s:aI):eo "BaseException.__getattribute__" ⟨[f,s],[]⟩:=by unfold eo;kernel_rfl
theorem aqo:dz e3=cT (.bI "wrapper_descriptor"):=z
theorem afz(self:aI):ep e3 self=cT (.eq "BaseException.__getattribute__",[self]):=by unfold ep;rw[aqo];kernel_rfl
theorem aii b0 cq cs e9{k:aX}{ox od:Obj}{name:aB}{v:aI} ff(c:O.az.In y.S) ct(dc:InstAt y.S k ox 38 (i od))(a2:ev O.az bY name=i none)
  (bo:dv name od=i (i v))(cQ:handedIn v=true)(d:W v fi):aN O.V ai (dm cn name cc) W an y:=by
 have I':=dc;obtain ⟨cR,hcl,hno,hdi⟩:=dc;obtain ⟨cL,as,bD,ak⟩:=nQ.es;have bU:bc O.V y.S (dz cn) bY:=λai W an s' ax H=>eY (ax _ _ cR) (by rw[hcl];exact H);have aV:∀s D,y.S.ce s=i D->y.S.ce s=i D:=λa a e=>e;refine ah (wpAny_mkText ?_);refine dC ?_;refine ah fj;refine ah (eN (V:=O.V) c nQ.g5 _ _ _ _ aV ?_);refine cj fk ?_;unfold getAttrByItsOwn hookBefore callGetattribute;refine ah (dD w (eN (V:=O.V) c nQ.g6 _ _ _ _ aV ?_));have hin:bc O.V y.S (eJ cn d5) true:=bU.dh f3;have hfo:bc O.V y.S (eh.ObjectAttr.find cn bY name) (.value v):=looks_find c I' (findObj_own (by unfold hasDictIn;rw[as];exact bD) a2 rfl bo);have aU:=afb cn (.str name y.a6);refine ah (wpAny_attempt f7);refine cj (by cases cc<;>rfl) ?_;unfold boundAndCalled;refine ah (wpAny_of_eq (afz _) ?_);refine wpAny_call (codeAny_call_builtin am_ ahV ?_);refine check_slot (V:=O.V) (ai:=ai.in1) (y:={y with a6:=y.a6+1}) (J:="BaseException.__getattribute__") (self:= .a4 k) (av:=[.str name y.a6]) (kw:=[]) akq ao6 hin aU ?_;refine ah bO;refine ah bO;refine ah fj;refine ah (hfo _ _ _ _ aV ?_);refine ck ?_;show aN O.V ai (handedOut v) W an _;rw[handedOut_of cQ];exact ck d
end
end
mutual
section
open aZ.b6 aZ.b7
mutual
section
variable {g:I}{j:Tb}{c:p aO}
theorem aif b0 cq cs e9 cY dN dO{e:aX}{af:aL aX}{aJ:p fl} fm{al:jD} ff b3 ct co
  (ap:ρ[J]?=i (e,af))(a2:σ[J]?=i cz) dP dQ(d:∀v,jG ρ y.S al v->W v fi):aN O.V ai (dm b1 f cc) W an y:=by
 obtain ⟨p',mP,ro⟩:=Q.ro J _ a2;rw[ap] at mP;cases mP;clear ap
 ·refine ro.E5 (x:=λh=>aN O.V ai (dm (.a4 h.1) f cc) W an y) λ{e af ob L nn} bR cG cH cI de=>?_;clear ro;obtain ⟨bz,bk,vs,lK,o9⟩:=cG;obtain ⟨cd,g3⟩:=cI.find (k:=f);rw[bo] at cd;obtain ⟨g1,cd,mR⟩:=cd;have aU:=n8.E aU;obtain ⟨oc,Lh,F3,osl⟩:=ob;dsimp only at bz bk lK;subst bz bk lK;refine aii (ba.rI.keeps Q.cK) nQ (od:=⟨.bI "dict",none,.dict L.eV nn,#[]⟩) ⟨bR,rfl,rfl,cH⟩ (by rw[aU];exact nQ.qF) ?_ mR.handed (d _ mR);show dv f _=_;unfold dv;dsimp only;rw[show L.eV.toList.find? _=_ from cd]
theorem aj3 fn(d:E_ k=true):k=i .cP:=by
 cases k with
 |none=>exact bd d
 |i Y=>cases Y with
  |cP=>rfl
  |_=>exact bd d
theorem ajZ{k:aL jD}(d:E7 k=true):k=i dR:=by
 cases k with
 |none=>exact bd d
 |i Y=>cases Y with
  |dn f=>exact et (λf=>i (jD.dn f)) (I.cb d)
  |_=>exact bd d
theorem ap_ bZ{s:aa} fn{Y:aL jD}{N:V aR} dN fo(e:(match s&&fp with|true=>N|false=>stuck) σ=i M):
  s=true/\k=i .cP/\Y=i dR/\N σ=i M:=by
 cases d:s&&fp with
 |false=>rw[d] at e;exact ns_ e
 |true=>rw[d] at e;exact ⟨(aa.bx.E d).1,aj3 (aa.bx.E (aa.bx.E d).2).1,ajZ (aa.bx.E (aa.bx.E d).2).2,e⟩
theorem ap9 bZ{N:V jD}{qF f:aB} fq dN fo(e:a8 (rV N qF f) ax σ=i M):
  (∃v am,N σ=i dS/\ax v am=i M)\/∃g am aJ al,N σ=i (.cN (.bs g),am)/\am[g]?=i cz/\j4 f rq=true/\lk aJ f=i al/\a8 (dg (.bV dT)) ax am=i M:=by
 rcases ak:N σ with _|⟨k|v,am⟩
 ·have ag:rV N qF f σ=none:=by unfold rV;rw[ak]
  unfold a8 at e;rw[ag] at e;exact ns_ e
 ·have ag:rV N qF f σ=a8 fr (λv=>dg fs) am:=by unfold rV;rw[ak]
  have e:a8 (a8 fr λv=>dg fs) ax am=i M:=by rw[<-e];unfold a8;rw[ag];rfl
  rw[w5] at e;exact nR e λal d e=>jZ d λg a2 d=>jZ d λaJ aM d=>lM d λaU d=> .ch ⟨g,am,aJ,al,by rw[qj a2],ajU aM,aU,d,e⟩
 ·have ag:rV N qF f σ=i dS:=by unfold rV;rw[ak]
  refine .cg ⟨v,am,rfl,?_⟩;unfold a8 at e;rw[ag] at e;exact e
theorem kI.ok cw b0 dV ft dU cY fu cq fv fw cy fx cZ co(aF:kg j c e jF bt σ=i dS)
  (h:∀al ay ab tk,Ext ρ y.S ay ab->bb ay am ab->jG ay ab v al->W al cp):aN O.V ai fy W an y:=
 d.bg N t Q aF (λa al ay a ab tk k Q rv e=>so_ e λag aT=>h al ay ab tk k fz (ag▸rv)) λa a a a a a bp=>nomatch bp
theorem kI.bad cw b0 dV ft dU cY fu cq dO fw cy fx cZ co(aF:kg j c e jF bt σ=i (.cN gN,am))
  (h:∀ay ab tk Y,Ext ρ y.S ay ab->bb ay am ab->qg ay am y.S ab J Y->an c0 cp):aN O.V ai fy W an y:=
 d.bg N t Q aF (λa a a a a a a a a e=>soe_ e) λa ay a ab tk Y bp k Q aJ=>sp_ (et i bp) λag aT=>h ay ab tk Y k fz (by rw[aT,jD.bs.cf (ej.cN.cf ag)];exact aJ)
mutual
section
variable {ai:eg}{ar:Env}{cO:p Env}{aS:p aX}{jF:jL}{ρ kM:jV}{σ:jE}{y:bi}{bq:db}{J aW:I}{Y:aX}{aJ:p fl}{f qF nm C:aB}{al:jD}{kd:I}{p2 p3 oM sH qC qD qb:aQ}
theorem aqa{an W:aI->bi->Prop} b3 ct cZ co(cR:lk c nm=i fA)(eG:jF[J]?=i (i fB)) fC dP dQ
  (H:∀ay ab tk v,Ext ρ y.S ay ab->bb ay fD ab->jG ay ab fE v->W v cp):aN O.V ai (eval fH ar) W an y:=by
 refine wpAny_List (eX ?_ rfl);refine JF (ρ:=ρ) (ax:=bt) (σ:=σ) (M:=(.ok cr,σ)) rfl λv vw tk rv e=>so_ e λag a=>?_;clear e;subst ag;refine eX ?_ rfl;rw[arm_eval_Attribute,show ∀bX,attributeBase fF f ar bX=bX from λa=>rfl];refine ah (Cp (y:=fI) (ax:=bt) (M:=(.ok fB,σ)) ba t Q (by unfold uX;rw[cR];dsimp only;rw[eG];rfl) λv w2 tk v_ e=>so_ e λaT a=>?_);clear e;subst aT;obtain ⟨⟨Y,af⟩,rfl,ap⟩:=v_.ofObj;refine ah (dE (ah (dC (aif (y:=fI) ba nQ Q ap a2 aU bo λva aog=>?_))));refine ah (wpAny_letTemporaryGo (ck (wpAny_items_nil ?_)));obtain ⟨jW,J2,LJ⟩:=Q.newList (P:=dT) (vs:=[vw,va]) (.a0 rv (.a0 aog .bG)) (I.eK rfl);exact ⟨by rw[sizeLine_eq];simp,H _ _ _ _ jW J2 LJ⟩
theorem aqc cs{W:Unit->bi->Prop} fv{u:aI} cZ co dW(rv:jG ρ y.S v u)
  (H:∀ab tk,kK aS ρ y.S ρ ab->bb ρ σ ab->jG ρ ab v u->W () cp):aN O.V ai (do bindName ar nm .none;unbindBehindTheSuite ar nm qb) W an y:=by
 obtain ⟨mm,hns,_⟩:=t.ns;refine wpAny_nameGoes (t.vR nm J false au) hns (by rw[t.q];rfl) λa1 asP ajx RJ=>?_;obtain ⟨o1,ag,cM⟩:=qT hns;obtain ⟨o2,aT,eu⟩:=qT ajx;have j5:kK fJ ρ y.S ρ a1:= .one RJ p.dw λD e=>⟨o2,aT,.low (eu.bH (by rw[<-aL.i.cf fK,cM])) (by rw[<-aL.i.cf fK,cM];decide)⟩;have Al:Tame fJ ρ y.S:=p.ey.bW ⟨t.low.1,t.low.2.1,o1,ag,λH=>df (cM.symm.bH H) c_⟩;exact H a1 _ (j5.aH (p.ey.bW t.low.2.2)) (Q.one RJ Al j5) (rv.lV Al j5)
theorem afQ cs fG b3 fL dW(kJ:lk c C=i .cP)(nB:lk j.bb C=i dR)(bT:ai.frames=i fM)(bS:b5<=bq.objs.size)(t:FR aS c ar jF kM bq)(tm:Tame aS kM bq)
  (s:o6 [] kM bq ρ σ fM y.S)(Rj:qg ρ σ bq y.S aW Y) fC dP dQ
  (H:∀ay ab tk v,kK aS kM bq ay ab->bb ay fD ab->jG ay ab fE v->W (.bt v) cp):
  aN O.V ai (noteFrame c0 ar) (λa s₂=>aN O.V ai (eU c0 none) (λa s₃=>aN O.V ai (handleBy c0 ar [.cE fN fO [.bh (i fH) qD] qb]) W an s₃) an s₂) an y:=by
 refine K_ bS bT s Rj λr bk Rc a=>ER (y:={y with S:=r}) bS bk Rc λad lK JX=>?_;clear s Rj bk Rc;refine wpAny_handleBy_cons (codeAny_handlers_test ?_) nofun;refine J6 (y:=fP) ba (t.ext (lK.k.ext (λa H=>nomatch H))) lK.Q kJ nB λvw rv=>?_;cases rv.uZ;clear rv;obtain ⟨gZ,asX,atg,_,hp3,ajw,xy,hc3,_⟩:=aV JX;obtain ⟨bl,gY,asi,cbs,asq,asr,asj,asl,cdd,k0,k1,k2,k3,k5,dp⟩:=p5.aE;refine wpAny_excMatches_sub_self (d:=ad) (lK.Q.cK _ _ dp) xy hc3 fk ?_;clear dp xy hc3 ajw;refine codeAny_handlers_suite_as (ER (y:=fP) bS lK JX λao o9 a=>?_);clear lK JX;have x4:Ext kM bq ρ ao:=o9.k.ext λa H=>nomatch H;refine FR.store (y:={y with S:=ao}) (t.ext x4) (tm.ext x4) o9.Q au (.bs hp3) λbn t5 a x5 rC Q4=>?_;refine dB (dA (aqa (y:={y with S:=bn,a6:=t5}) ba p5.eB Q4 rC au (p.getElem?_set_self (t.lt nm J (by rw[au];rfl))) a2 aU bo λML bC apG v jW J2 LJ=>?_));exact aqc (y:={y with S:=bC,a6:=apG}) (Q4.ext jW) J2 au LJ λa1 Al j5 aiJ LK=>H ML a1 Al v ((((x4.al aS).bH x5).bH (jW.al aS)).bH j5) aiJ LK
end
theorem acZ cw{C nm Tj qF f:aB}{kd:I}{p1 p2 p3 oM sH qC qD qb A:aQ} dO b3 fL cy dW:
  ni g j c (.Try fQ [.cE fN fO [.bh (i (.p [.bP cr kd p3,.cB (.aY Tj oM) f sH] qC)) qD] qb] [] [] A):=by
 refine gs;intro aR ai ar cO aS jF ρ σ y kn kr l5 M W an N bT t tm Q aF h jK;have aF:(match j4 nm Tj&&(E_ (lk c C)&&E7 (lk j.bb C)) with|true=>a8 (rV (kg j c e jF bt) qF f) kr|false=>stuck) σ=i M:=aF;obtain ⟨kE,kJ,nB,aid⟩:=ap_ aF;clear aF;clear aF;cases n8.E kE;clear kE;rcases ap9 aid with ⟨v,am,ak,aT⟩|⟨n',am,asw,al,ak,a2,aU,bo,aT⟩
 ·exact eW (dB (dA (d.ok N t Q ak λal j9 n t1 x1 be rv=>h.bt v al j9 am n t1 gW be rv aT)))
 ·refine eW (dB (dA (d.bad N t Q ak λj9 n t1 Y x1 be aJ=>?_)));obtain ⟨fs',ag,aw⟩:=(N.ext x1).ez;cases bT.symm.bH ag;exact afQ (y:={y with S:=n,a6:=t1}) ba p5 au kJ nB bT Q.gX t tm ⟨x1.al [],be,aw⟩ aJ a2 aU bo λML a1 Al v k Q rv=>h.bt _ v ML _ a1 Al k Q rv (qw aT).2
end
end
mutual
section
open aZ.b6 aZ.b7
mutual
section
inductive o(x:Prop) where
 |R
 |K (d:x)
noncomputable def o.ok dX c2:aa:=match f with
 | .K _=>true
 | .R=>false
theorem o.get dX:∀{f:o x},f.ok=true->x
 | .K d,_=>d
noncomputable def o.U fR c2(t:x->o W):o W:=match f with
 | .K d=>t d
 | .R=> .R
noncomputable def o.E fR c2(t:x->W):o W:=f.U λd=> .K (t d)
noncomputable def on{W:Prop}(s:aa)(t:s=true->o W):o W:=match s,t with
 |true,t=>t rfl
 |false,_=> .R
noncomputable def aK fT{x:α->Prop}(t:∀f,o (x f)):∀P:p α,o (∀f∈P,x f)
 |[]=> .K λa d=>nomatch d
 |f::P=>(t f).U λd=>(aK t P).E λaG=>p.ex.bW ⟨d,aG⟩
noncomputable def Jc:p aB->p aB->aa
 |[],_=>true
 |k::M,aD=> !(aD.any λY=>cF.sEq k Y)&&Jc M aD
theorem aeK{P aD:p aB}(d:Jc P aD=true):∀k∈P,k∉aD:=by
 induction P with
 |bG=>exact λa d=>df d p.eR
 |a0 Y M ih=>obtain ⟨n,r⟩:=aa.bx.E d;refine p.ex.bW ⟨λak=>?_,ih r⟩;rw[p.any_eq_true.bW ⟨Y,ak,cF.sEq_iff.bW rfl⟩] at n;exact bd n
noncomputable def Qk bN fU:aa:=
 (match sc.kind with| .eA=>true|_=>false)&&xK (sc.cS.map (·.1))&&sc.cS.bj λh=>(match h.2 with| .cell=>false| .globalExplicit=>false| .free=>(match kN.outer (lk c h.1) with| .bad=>false|_=>true)|_=>true)&&(!cF.sEq h.1 (aB.eS "__debug__")&& !cF.sEq h.1 (aB.eS "__classdict__"))
theorem agz dY dZ(d:Qk c sc=true):yi c sc:=by
 refine kC d λd ad=>kC d λn r=>?_;have kk:=λh ap=>kC (p.all_eq_true.E ad h ap) (x:=_/\_/\_) λf s=>kC s λs C=>⟨f,s,C⟩;clear ad;refine ⟨?_,FZ r,λh ap=>?_,λh ap=>⟨F_ ((aa.cA _).E (kk h ap).2.1),F_ ((aa.cA _).E (kk h ap).2.2)⟩,λh ap aM=>?_⟩
 ·clear kk;cases a9:sc.kind with
  |eA=>rfl
  |_=>rw[a9] at n;exact bd n
 ·have f:=(kk h ap).1;exact ⟨λH=>by rw[H] at f;exact bd f,λH=>by rw[H] at f;exact bd f⟩
 ·have f:=(kk h ap).1;rw[aM] at f;exact λH=>by rw[H] at f;exact bd f
inductive Oj where
 |e (c:p aO) (e:T)
 |G (c:p aO) (e:T)
 |H (c:p aO) (e:T)
 |aE (c:p aO) (aj:T) (aD:p aB) (lX tf:aa) (G:T) (aq:p T) (av:p cC)
 |y (c:p aO) (st:bw)
 |s (c:p aO) (ss:p bw)
variable {g:I}{j:Tb}
noncomputable def ac7 cu b2:Oj->Prop
 | .e c e=>kI g j c e
 | .G c e=>pI g j c e
 | .H c e=>pH g j c true e
 | .aE c aj aD lX tf G aq av=>r4 g j c aj aD lX tf G aq av
 | .y c st=>ni g j c st
 | .s c ss=>vA g j c ss
noncomputable abbrev wz cu b2 bN fV:=aL {h:aa×aa//qN g j c h.1 h.2 ae}
noncomputable def o.B3 dX dY fW c2(H G:aa)(t:x->qN g j c H G ae):wz g j c ae:=match f with
 | .K d=>i ⟨(H,G),t d⟩
 | .R=>none
theorem Bh{c}:∀fX,(∀e∈L,kI g j c e)->ux g j c L
 |[],_=>acH
 |_::_,d=>acG d0 (Bh λe bE=>d e d1)
theorem OY{c}:∀fX,(∀e∈L,pH g j c true e)->Bg g j c L
 |[],_=>acF
 |_::_,d=>acE d0 (OY λe bE=>d e d1)
theorem OV{c}:∀{ss:p bw},(∀st∈ss,ni g j c st)->vA g j c ss
 |[],_=>ab9
 |_::_,d=>ab8 d0 (OV λe bE=>d e d1)
noncomputable def T8 fY:aa:=match D with
 |i .dx=>false
 |i .zip=>false
 |i .dl=>false
 |_=>true
theorem ana{c} d2 fZ f0(d:T8 cv=true) bZ f1:uT (aR:=aR) j c d3 jF=none:=by
 show (match oj j c k with|i .dx=>_|i .zip=>_|i .dl=>_|_=>_)=_;generalize oj j c k=aC at d;rcases aC with _|aC
 ·rfl
 ·cases aC<;>first|rfl|exact nomatch d
noncomputable def FH fY:aa:=match D with
 |i .bV=>true
 |_=>false
theorem er{c} d2 fZ f0(d:FH cv=false) bZ dU fq:
  kg j c d3 jF ax=kg j c f2 jF λt=>lP j c args jF λvs=>a8 (tE j t vs) ax:=by
 show (match oj j c k with|i .bV=>_|_=>_)=_;generalize oj j c k=aC at d;rcases aC with _|aC
 ·rfl
 ·cases aC<;>first|rfl|exact nomatch d
theorem alo{D:aL Bn}(d:FH D=true):D=i .bV:=by
 rcases D with _|aC
 ·exact nomatch d
 ·cases aC<;>first|rfl|exact nomatch d
noncomputable abbrev IF b2 bN f4:Prop:=∀bZ f1,zY (aR:=aR) j c P jF=none
noncomputable def amo bN f4:o f5:=pO (x:=λP=>o f5) P (.K λa=>rfl) λf M=>pO (x:=λM=>o (IF j c d4)) M (mJ (x:=λf=>o (IF j c [f])) f Z (nm:=λa a=> .K λa=>rfl) (rz:=λa a a=> .K λa=>rfl) (rT:=λa a a=> .K λa=>rfl)) λa a=> .R
noncomputable def IY aP:o f6:=mJ e (x:=λe=>o f6) Z (nm:=λa a=> .K λa a=>rfl) (qH:=λa a a=> .K λa a=>rfl) (rT:=λa a a=> .K λa a=>rfl) (b9:=λa a a a=> .K λa a=>rfl) (bB:=λa a a a=> .K λa a=>rfl) (rz:=λa a a=> .K λa a=>rfl)
noncomputable def I0 aP:o f8:=mJ e (x:=λe=>o f8) Z (nm:=λa a=> .K λa a a=>rfl) (rz:=λa a a=> .K λa a a=>rfl) (rT:=λa a a=> .K λa a a=>rfl) (bB:=λt f X h=>pO f (x:=λf=>o (yG (.a_ t f X h))) .R λk xs=>qk t (x:=λt=>o (yG (.a_ t (k::xs) X h))) Z λa a=> .K λa a a=>rfl)
noncomputable def Pa aP:o f9:=mJ e (x:=λe=>o f9) Z (b_:=λa a a=> .K λa a a=>rfl) (nm:=λa a=> .K λa a a=>rfl) (di:=λa a a=> .K λa a a=>rfl) (b9:=λa a a a=> .K λa a a=>rfl) (un:=λa a a=> .K λa a a=>rfl) (E4:=λa a a a=> .K λa a a=>rfl) (xe:=λa a a=> .K λa a a=>rfl) (li:=λa a=> .K λa a a=>rfl) (qH:=λa a a=> .K λa a a=>rfl) (dj:=λa a a a=> .K λa a a=>rfl) (bB:=λa a a a=> .K λa a a=>rfl) (rz:=λa a a=> .K λa a a=>rfl) (rT:=λa a a=> .K λa a a=>rfl)
variable (B:IQ g j)(p5:Bl)(l:∀aW,o d6)(c:p aO)
noncomputable def O8(ts:p T):o (qM ts):=match ts with
 |[y,G]=>qk y (x:=λy=>o (qM [y,G])) Z (λk h=>qk G (x:=λG=>o (qM [.aY k h,G])) Z (λY H=> .K (.two k h Y H)))
 |f_=>qk y (x:=λy=>o (qM f_)) Z (λk h=>qk G (x:=λG=>o (qM [.aY k h,G,u])) Z (λY H=>qk u (x:=λu=>o (qM [.aY k h,.aY Y H,u])) Z (λaC M=> .K (.three k h Y H aC M))))
 |_=> .R
noncomputable def O9 c3:o ga:=mJ G (x:=λG=>o ga) Z (nm:=λa a=> .K (.name _ _)) (qH:=λts a a=>(O8 ts).E .tup)
noncomputable def Bs fW(d:∀bZ jF,uT (aR:=aR) j c ae jF=none):wz g j c ae:=(l (.e c ae)).B3 false false λQ=>acJ Q d
noncomputable def El d7:o (ux g j c args):=(aK bu args).E Bh
theorem aeq dY b3{D:T} fm{b8 A:aQ}(d:j4 f vF=true/\yG D/\d8=true/\kI g j c D):qN g j c true false (.a_ gb [] [] A):=by obtain ⟨n,r,ad,d⟩:=d;cases n8.E n;exact acL ba d r ad
noncomputable def IX fV:wz g j c ae:=mJ ae (x:=λae=>wz g j c ae) c4
 (bB:=λt args X A=>pO X (x:=λX=>wz g j c gc) (mJ t (x:=λt=>wz g j c gd) c4
  (nm:=λk h=>match d:oj j c k with
   |i .dx=>(El l c args).B3 false false (acK B.aA d)
   |i .zip=>(El l c args).B3 false true (acM B.aA d)
   |i .dl=>(El l c args).B3 false true (acI B.aA d)
   |_=>match d:T8 cv with
    |true=>Bs l c (ana d)
    |false=>none)
  (rz:=λD f b8=>pO args (x:=λargs=>wz g j c (.a_ gb args [] A)) ((on (j4 f vF) λn=>(I0 D).U λr=>on d8 λad=>(l bv).E λd=>⟨n,r,ad,d⟩).B3 true false (aeq B.aA)) λa a=>none)) λa a=>none)
 (nm:=λa a=>Bs l c λa=>rfl) (qH:=λa a a=>Bs l c λa=>rfl) (rT:=λa a a=>Bs l c λa=>rfl) (b9:=λa a a a=>Bs l c λa=>rfl)
noncomputable def IW:(a3:p CmpOp)->(L:p T)->o (Bf g j c a3 L)
 |[op],[e]=>(l a7).E (acd B.aA)
 |op::op'::a3,e::e'::L=>(l a7).U λd=>(IW (op'::a3) (e'::L)).E (ab_ B.aA d)
 |_,_=> .R
noncomputable def IZ:(D:aL T)->o (yN g j c D)
 |none=> .K acN
 |i e=>(l a7).E acO
noncomputable abbrev Gy cu b2 bN gg gh:=aL {xs:p aB//qf (pH g j c true) X L xs}
noncomputable def O_:(X:p gf)->(L:p T)->Gy g j c X L
 |[],[]=>i ⟨[],.bG⟩
 |i C::X,e::L=>JL C (x:=λC=>Gy g j c (i C::X) c5) c4 (λC f s=>ED C (x:=λC=>Gy g j c (i (.bP C f s)::X) c5) c4 λa=>match l d9,O_ X L with
  | .K d,i af=>i ⟨_,.a0 d af.2⟩
  |_,_=>none)
 |_,_=>none
noncomputable def aej gg aP gh cx:o (kI g j c (.cD X c5 A)):=match O_ l c X c5 with
 |none=> .R
 |i af=>match bn:I.ble X.ci 15 with
  |true=> .K (acj af.2 (I.eK bn))
  |false=>on (I.bA X.ci 17) λbC=>on (xK af.1) λa1=> .K (ack af.2 (I.cb bC) (FZ a1))
structure yD(g:I)(j:Tb)(c:p aO)(aj:T)(sc:dd)(G ae:T)(aq:p T)(av:p cC):Prop where
 ok:∃lX tf,yi c sc/\qN g j c lX tf ae/\(∀ar k,ew ae ar k=cT k)/\r4 g j gj aj [] lX tf G aq av
noncomputable def O6 gk fU(G ae:T) gl gm:o (yD g j c aj sc G ae aq av):=
 on (Qk c sc) λn=>(IY ae).U λr=>match IX B l c ae with
  |none=> .R
  |i h=>(l (.aE gj aj [] h.1.1 h.1.2 G aq av)).E λao=>⟨_,_,agz n,h.2,r,ao⟩
theorem yD.e gn dZ go gp ge gq:kI g j c (.bQ aj gr sc A):=by obtain ⟨_,_,n,r,ad,ao⟩:=d.ok;exact OX n r ad ao
theorem yD.y d2{h:aQ} gn dZ go gp{ca A:aQ} gq:ni g j c (.b4 c6 (.bQ aj gr sc ca) A):=by obtain ⟨_,_,n,r,ad,ao⟩:=d.ok;exact acW n r ad ao
noncomputable abbrev qv cu b2 bN d_ ea d7:=o (kI g j c d3)
noncomputable def aer d_ ea(d:FH cv=true)(f:T)(af:qv g j c k h A [f]):qv g j c k h A [f]:=
 (ahP f (x:=λf=>qv g j c k h A [f]->qv g j c k h A [f]) gt (λt cJ X H=>qk t (x:=λt=>qv g j c k h A gu->qv g j c k h A gu) gt
  (λY M=>pO X (x:=λX=>qv g j c k h A gv->qv g j c k h A gv) (λaf=>match eH:oj j c Y with
   |i .zip=>(El l c cJ).E λaG=>acp B.aA gw eH aG
   |_=> .R) λa a af=>af))) af
noncomputable def aCall d_ ea d7:qv g j c k h A args:=match d:FH cv with
 |false=>(aK bu args).E λaG=>OW B gx gy gz (er d)
 |true=>(λaf:qv g j c k h A args=>pO args (x:=λargs=>qv g j c k h A args->qv g j c k h A args) (λaf=>af) (λf M=>pO M (x:=λM=>qv g j c k h A d4->qv g j c k h A d4) (aer B l c k h A d f) λa a af=>af) af)
  ((amo c args).U λr=>(aK bu args).E λaG=>aco B.aA gw r gy)
noncomputable def yS gA cx gB(d:OZ j c D J A):o eb:=(l bv).U λn=>(l gC).E λr=>acu B.aA n r d
noncomputable def aSub gA cx gB:o eb:=mJ J (x:=λJ=>o eb) Z
 (sl:=λlo au st a=>(l bv).U λn=>(IZ l c lo).U λr=>(IZ l c au).U λad=>(IZ l c st).E λao=>acs n r ad ao)
 (nm:=λa a=>yS B l c D A _ rfl) (b_:=λa a a=>yS B l c D A _ rfl) (b9:=λa a a a=>yS B l c D A _ rfl) (un:=λa a a=>yS B l c D A _ rfl) (rT:=λa a a=>yS B l c D A _ rfl) (bB:=λa a a a=>yS B l c D A _ rfl)
noncomputable def aek aP:o gD:=mJ e (x:=λe=>o gD) Z
 (b_:=λa a a=> .K aci)
 (nm:=λa a=> .K gx)
 (di:=λa L a=>(aK bu L).E acg)
 (b9:=λP a M a=>(l ec).U λn=>(l (.e c M)).E λr=>acf n r)
 (un:=λa e a=>(l a7).E acw)
 (E4:=λG s D a=>(l c7).U λn=>(l (.e c s)).U λr=>(l bv).E λad=>acm n r ad)
 (xe:=λX L A=>pO L (x:=λL=>o (kI g j c (.cD X L A))) .R λe L=>aej l c X e L A)
 (li:=λL a=>(aK bu L).E λd=>acn gE)
 (qH:=λL a a=>(aK bu L).E λd=>acv gE)
 (lc:=λaj bm sc A=>pO bm (x:=λbm=>o (kI g j c (.bQ aj bm sc A))) .R λQ av=>J4 Q (x:=λQ=>o (kI g j c (.bQ aj gF sc A))) Z λG ae aq=>(O6 B l c aj sc G ae aq av).E (yD.e c))
 (dj:=λP a3 L a=>(l ec).U λn=>(IW B l c a3 L).E λr=>ach n r)
 (bB:=λt args X A=>pO X (x:=λX=>o (kI g j c gc)) (mJ t (x:=λt=>o (kI g j c gd)) Z
  (nm:=λk h=>aCall B l c k h A args)
  (rz:=λD a b8=>(I0 D).U λr=>on d8 λad=>on (I.blt args.ci 20) λao=>(l bv).U λbn=>(aK bu args).E λbC=>acq B bn gG r ad (I.blt_eq.E ao))
  (rT:=λD J h=>(l (.e c (.ek D J h))).U λr=>(aK bu args).E λbC=>OW B r gG gz rfl)) λa a=> .R)
 (rz:=λD a a=>(I0 D).U λn=>(l bv).E λd=>ace B.aA d (n _))
 (rT:=λD J A=>aSub B l c D A J)
noncomputable def Bt aP(a9:∀ar bX,isTrue e ar bX=(do let v<-bX;standAt e.A;aZ.holding [v] (truthy v))):o ed:=(l a7).E λd=>d.test a9
noncomputable def aeo aP:o ed:=mJ e (x:=λe=>o ed) Z
 (di:=λa L a=>(aK (λe=>l gH) L).E ac2)
 (dj:=λP a3 L a=>(l ec).U λn=>(IW B l c a3 L).E λr=>ac3 n r)
 (un:=λop e h=>match op with
  | .Not=>(l gH).E ac5
  |_=> .R)
 (E4:=λG s D a=>(l c7).U λn=>(l (.G c s)).U λr=>(l (.G c D)).E λad=>ac4 n r ad)
 (bB:=λa a a a=>Bt l c _ λa a=>rfl) (nm:=λa a=>Bt l c _ λa a=>rfl) (rz:=λa a a=>Bt l c _ λa a=>rfl) (rT:=λa a a=>Bt l c _ λa a=>rfl) (b_:=λa a a=>Bt l c _ λa a=>rfl)
noncomputable def aem aP:o gI:=mJ e (x:=λe=>o gI) Z
 (b_:=λa a a=> .K acy)
 (nm:=λa a=> .K (acB B.aA))
 (un:=λop e h=>match op with
  | .USub=>(l d9).E acD
  |_=> .R)
 (li:=λL a=>(aK gJ L).E λd=>acA gK)
 (qH:=λL a a=>(aK gJ L).E λd=>acC gK)
 (xe:=λX L h=>pO X (x:=λX=>o (pH g j c true (.cD X L h))) (pO L (x:=λL=>o (pH g j c true (.cD [] L h))) (.K acz) λa a=> .R) λa a=> .R)
noncomputable def O7(H:aa):(aq:p T)->o (ur g j c H aq)
 |[]=> .K (.cg rfl)
 |[C]=>match H with
  |false=>(l (.G c C)).E λd=> .ch ⟨C,rfl,pI.H d⟩
  |true=>ahQ C (x:=λC=>o (ur g j c true [C])) Z (λP a3 L h=>qk P (x:=λP=>o (ur g j c true [.ei P a3 L h])) Z (λa a=>match a3,L with
   |[.Is],[M]=>qk M (x:=λM=>o (ur g j c true [.ei (.aY _ _) [.Is] [M] h])) Z (λa a=> .K (.ch ⟨_,rfl,ac6 B.aA⟩))
   |_,_=> .R))
 |_=> .R
theorem ajL{f s:aa}(d:(!f||s)=true):f=true->s=true:=by rintro rfl;exact d
noncomputable def aei gk(aD:p aB)(lX tf:aa) c3 gl gm:o gM:=
 (O9 G).U λn=>on (!tf||uS G) λr=>on (Jc (vV G) aD) λad=>pO av (x:=λav=>o gM) ((O7 B l c lX aq).U λao=>match lX,ao with
   |true,ao=>(l (.H c aj)).E λd=> .last n c8 ee ao d
   |false,ao=>(l (.e c aj)).E λd=> .last n c8 ee ao (kI.H d))
  λQ da=>J4 Q (x:=λQ=>o (r4 g j c aj aD lX tf G aq (Q::da))) Z λt' it' ifs'=>match lX with
   |true=> .R
   |false=>(O7 B l c false aq).U λao=>(IY it').U λbn=>match IX B l c it' with
    |none=> .R
    |i h=>(l (.aE c aj (aD++vV G) _ _ t' ifs' da)).E λa1=> .more n c8 ee ao h.2 bn a1
noncomputable def VC aP:aa:=QJ e (λa=>true) (λvs a a=> !vs.bj gO)
theorem aqT cw(d:VC e=true)(vs:p T)(s:I)(h:aQ)(H:e= .Tuple vs s h):vs.bj gO=false:=by cases H;exact (aa.cA _).E d
noncomputable def aeg aP cx(as:D7 e) cy c3:o c9:=mJ G (x:=λG=>o c9) Z
 (nm:=λa a=> .K (acV d as))
 (qH:=λts a a=>(O8 ts).U λn=>on (VC e) λad=> .K (ac0 d as n (aqT ad)))
 (rz:=λD a a=>(l bv).E λr=>acP B.aA d as r)
 (rT:=λD J a=>(l bv).U λr=>(l gC).E λad=>acU d as r ad)
noncomputable def aeh aP cx c3:o c9:=qk G (x:=λG=>o c9) Z (λk h=>mJ e (x:=λe=>o (ni g j c (.b4 c6 e A))) Z
 (lc:=λaj bm sc ca=>pO bm (x:=λbm=>o (ni g j c (.b4 c6 (.bQ aj bm sc ca) A))) .R λQ av=>J4 Q (x:=λQ=>o (ni g j c (.b4 c6 (.bQ aj gF sc ca) A))) Z λG ae aq=>(O6 B l c aj sc G ae aq av).E (yD.y c)))
noncomputable abbrev vj cu b2 bN aP gP gQ gR gS gT:=o (ni g j c (.Try fQ [.cE gU gV [s] qb] [] [] A))
noncomputable def aep aP gP gQ gR gS gT:vj g j c e p1 A n1 qb bl s:=
 qk bl (x:=λbl=>vj g j c e p1 A n1 qb bl s) Z (λC p2=>Ga s (x:=λs=>vj g j c e p1 A n1 qb bM s) Z (λD qD=>match D with
  |i P=>QI P (x:=λP=>vj g j c e p1 A n1 qb bM (.bh (i P) qD)) Z (λL qC=>match L with
   |[k,Y]=>JL k (x:=λk=>vj g j c e p1 A n1 qb bM (.bh (i (.p [k,Y] qC)) qD)) Z (λax kd p3=>ED ax (x:=λax=>vj g j c e p1 A n1 qb bM (.bh (i (.p [.bP ax kd p3,Y] qC)) qD)) Z λqF=>
    QH Y (x:=λY=>vj g j c e p1 A n1 qb bM (.bh (i (.p [.bP cr kd p3,Y] qC)) qD)) Z (λD f sH=>qk D (x:=λD=>vj g j c e p1 A n1 qb bM (.bh (i (.p [.bP cr kd p3,.cB D f sH] qC)) qD)) Z
     (λn' oM=>(l a7).U λd=>match n:lk c n1 with
      |i (.dy _ false)=> .K (acZ B.aA p5 d n)
      |_=> .R)))
   |_=> .R)
  |none=> .R))
noncomputable def aen dF:o eZ:=vY st (x:=λst=>o eZ) Z
 (g2:=λe a=>(Pa e).U λn=>(l a7).E λd=>acR d n)
 (cont:=λa=> .K acQ)
 (re:=λD h=>match D with
  |i e=>(l a7).E acY
  |none=> .R)
 (asg:=λts e A=>match ts with
  |[G]=>match Pa e with
   | .K n=>(l a7).U λd=>aeg B l c e A n d G
   | .R=>aeh B l c e A G
  |_=> .R)
 (iff:=λG s D a=>(l c7).U λn=>(l dG).U λr=>(l (.s c D)).E λad=>acT n r ad)
 (Gv:=λG s D h=>pO D (x:=λD=>o (ni g j c (.While G s D h))) ((l c7).U λn=>(l dG).E λr=>ac1 n r) λa a=> .R)
 (g4:=λG ae s D h=>pO D (x:=λD=>o (ni g j c (.For G ae s D h))) ((O9 G).U λn=>(IY ae).U λao=>match IX B l c ae with
  |i h=>match eF:h.1.1 with
   |false=>on (!h.1.2||uS G) λr=>(l dG).E λd=>acS n c8 (eF▸h.2) d ao
   |true=> .R
  |none=> .R) λa a=> .R)
 (ra:=λe C h=>match e,C with
  |i e,none=>(l a7).E λd=>acX B.aA p5.eB d
  |_,_=> .R)
 (tr:=λs aG D t A=>match s,aG,D,t with
  |[M],e0,[],[]=>Ga M (x:=λM=>o (ni g j c (.Try [M] e0 [] [] A))) Z (λe p1=>match e with
   |i e=>aep B p5 l c e p1 A n1 qb bl y
   |none=> .R)
  |_,_,_,_=> .R)
noncomputable def ael:(aW:Oj)->o d6
 | .e c e=>aek B l c e
 | .G c e=>aeo B l c e
 | .H c e=>aem B l c e
 | .aE c aj aD lX tf G aq av=>aei B l c aj aD lX tf G aq av
 | .y c st=>aen B p5 l c st
 | .s c ss=>(aK (λst=>l (.y c st)) ss).E OV
noncomputable def P1:I->∀aW,o d6
 |0,_=> .R
 |N+1,aW=>ael B p5 (P1 N) aW
noncomputable def Lj dF:aa:=match Aj st with
 |i h=>UG h.2.2 h.1&&(P1 B p5 60 (.s (lR [] h.2.2.cS 0) h.2.1)).ok
 |none=>false
end
end
mutual
section
open aZ.b6 aZ.b7
set_option maxRecDepth 100000
mutual
section
variable {g:I}
theorem kR.less b0 cY e6 cV(M:kR N ai ρ d) cW:kR g ai ρ d:=
 ⟨M.bD,I.eM (I.em (I.el (I.eP 3 ak) _) 5) M.g0,I.eM (I.em (I.el (I.eP 30 ak) _) 60) M.un,M.ez⟩
theorem oH.aH cl e1(aw:oH g f t) cV cW:oH N f t:=
 e2
theorem yz.aH cl e1(aw:yz g f t) cV cW:yz N f t:=
 e2
noncomputable def DK(f:aX) dF(oW:p jD):Prop:=∃h,Aj st=i h/\FnAt f h.1 h.2.1 h.2.2 oW
structure DJ(f:aX)(st:bw)(af:p jD):Prop where
 bF:br O.az bJ=true
 cU:DK f st af
structure GY(f J:aX):Prop where
 made:makesIn O.az f=true
 ini:ev O.az bJ "__init__"=i (i dH)
 q:typeIn O.az dH=i (.bI "function")
 bF:br O.az bJ=true
structure HS:Prop where
 aA:q6 (tb Dl)
 xc:Bl
 mt:∀C k f,oX s7 C k=i f->D6 O.az C k f/\br O.az bJ=true
theorem HS.Rm cX(aw:Tab):q6 e4:=
 let ⟨f,s,C,af,e,t,Q,d⟩:=b.aA;⟨f,s,C,af,e,t,Q,d⟩
structure m(g:I)(aw:Tab):Prop where
 q:∀f N,lW q7 f=none->lW aw f=i N->br O.az bJ=true/\oH g f N
 aE:∀f J N,lW q7 f=i J->lW aw J=i N->br O.az bJ=true/\yz g f (k9 f N)
 mf:∀C k f N,oX s7 C k=i f->lW aw f=i N->oH g f N
set_option tactic.hygienic true in
theorem FT{C k f} e5:C=334/\(k=wU/\f=324\/k=wV/\f=331):=by
 have key:∀P,(∀h∈P,h∈s7)->oX P C k=i f->(C,k,f)∈s7:=by
  intro P;induction P with
  |bG=>exact λa d=>nomatch d
  |a0 h P ih=>
   intro ap d;unfold oX at d
   split at d
   ·split at d
    ·rename_i H _ q';clear ih;cases d;rw[<-I.cb H,<-n8.E q'];exact ap h p.dw
    ·exact ih e7 d
   ·exact ih e7 d
 have:=key s7 (λa H=>H) d;simp only [s7,p.mem_cons,p.eR,or_false,Prod.mk.injEq] at this;rcases this with ⟨H,d⟩|⟨H,d⟩
 ·exact ⟨H,.cg d⟩
 ·exact ⟨H,.ch d⟩
theorem alU{C c' k f a'} e5(ab:oX s7 c' k=i a'):f=a':=by rw[(FT d).1] at d;rw[(FT ab).1,d] at ab;exact aL.i.cf ab
theorem m.bG:m g Dl:=⟨λa a a d=>dI,λa a a a d=>dI,λa a a a a d=>dI⟩
theorem m.aH bK bL cV cW:m N aw:=
 ⟨λf t n r=>⟨(B.q f t n r).1,(B.q f t n r).2.aH ak⟩,λf J t n r=>⟨(B.aE f J t n r).1,(B.aE f J t n r).2.aH ak⟩,λC k f N n r=>(B.mf C k f N n r).aH ak⟩
theorem m.tb bK bL cX:IQ g e4:=
 ⟨b.Rm aw,B.q,B.aE,λC k f d=>⟨by rw[(FT d).1];decide,by rw[(FT d).1];decide,b.mt C k f d⟩,B.mf,λa a a a a d ab=>alU d ab⟩
theorem m.bg bK cl dJ dK bL cX(aG:Lj (B.tb b) b.xc st=true)(aM:DK f st oW):oH cm f (kc dL st oW):=by obtain ⟨h,ap,aM⟩:=aM;unfold kc;unfold Lj at aG;rw[ap] at aG⊢;obtain ⟨n,r⟩:=aa.bx.E aG;exact aiz e8 (wH.of n) aM (o.get r:vA _ _ _ _).bg
set_option tactic.hygienic true in
theorem xJ fT{f s:I}{v al:α}{P:p (I×α)}(d:lW ((f,v)::P) s=i al):(s=f/\v=al)\/lW P s=i al:=by
 unfold lW at d
 split at d
 ·rename_i H;cases d;exact .cg ⟨I.cb H,rfl⟩
 ·exact .ch d
theorem m.a0 bK cl e_ bL(a9:br O.az bJ=true)(ak:oH cm f N)(au:∀C,lW q7 C≠i f):m cm ((f,N)::aw):=by
 have B:=B.aH (I.eL g);refine ⟨λs t n r=>?_,λs J t n r=>?_,λC k s t n r=>?_⟩
 ·rcases xJ r with ⟨rfl,rfl⟩|r
  ·exact ⟨a9,ak⟩
  ·exact B.q s t n r
 ·rcases xJ r with ⟨rfl,rfl⟩|r
  ·exact df n (au s)
  ·exact B.aE s J t n r
 ·rcases xJ r with ⟨rfl,rfl⟩|r
  ·exact ak
  ·exact B.mf C k s t n r
theorem m.agw bK{f J:aX} e_ bL cX(as:GY f J)(a9:br O.az dH=true)(ak:oH cm J N)(au:∀C,lW q7 C=i J->C=f)(n1:f≠38)(n2:f≠39):m fa ((J,N)::aw):=by
 have B:=B.aH (N:=g+2) ef;refine ⟨λs t n r=>?_,λs aW t n r=>?_,λC k s t n r=>?_⟩
 ·rcases xJ r with ⟨rfl,rfl⟩|r
  ·exact ⟨a9,ak.aH fb⟩
  ·exact B.q s t n r
 ·rcases xJ r with ⟨rfl,rfl⟩|r
  ·obtain rfl:=au s n;exact ⟨as.bF,(aga e8 as.made as.ini as.q n1 n2 ak).ap5⟩
  ·exact B.aE s aW t n r
 ·rcases xJ r with ⟨rfl,rfl⟩|r
  ·exact ak.aH fb
  ·exact B.mf C k s t n r
structure Gx:Prop where
 bf:HS
 akk:br O.az bY=true
 aE:∀(J:I) h,GK[J]?=i h->GY h.1 h.2
 q:∀(J:I) h,Of[J]?=i h->DJ h.1 h.2.1 h.2.2
theorem R2{x:I×I->aa} fc(d:q7.bj x=true):∀C,lW q7 C=i f->x (C,f)=true:=by
 have key:∀P:p (I×I),P.bj x=true->∀C,lW P C=i f->x (C,f)=true:=by
  intro P;induction P with
  |bG=>exact λa a e=>nomatch e
  |a0 h P ih=>
   intro d C e;rw[p.all_cons,aa.en] at d;rcases xJ (f:=h.1) (v:=h.2) e with ⟨rfl,rfl⟩|H
   ·exact d.1
   ·exact ih d.2 C H
 exact key q7 d
theorem Tq fc(d:q7.bj fd=true):∀C,lW q7 C≠i f:=λC e=>by have:=R2 d C e;simp at this
theorem m.F bK cl dJ dK bL fe(aM:DJ f st oW) fg(au:q7.bj fd=true):m cm ((f,kc dL st oW)::aw):=
 B.a0 aM.bF fh (Tq au)
theorem m.FQ bK dJ dK bL fe(f J ax:I)(a9:GK[ax]?=i (f,J))(aM:DJ J st oW) fg(au:(q7.bj (λh=> !I.bA h.2 J||I.bA h.1 f)&& !I.bA f 38&& !I.bA f 39)=true):m fa ((J,kc dL st oW)::aw):=by simp only [aa.en,aa.cA] at au;refine B.agw b.bf (b.aE ax _ a9) aM.bF fh (λC e=>?_) (I.eQ au.1.2) (I.eQ au.2);have:=R2 au.1.1 C e;simpa using this
end
mutual
section
variable (b:Gx)
include b
theorem T1:m 1 G0:=m.a0 m.bG b.akk (aio b.bf.aA b.bf.xc) dM
theorem T2:m 3 Hf:=(T1 b).FQ b 82 79 0 rfl (b.q 0 _ rfl) z w
theorem adv:m 5 Ho:=(T2 b).FQ b 104 101 1 rfl (b.q 1 _ rfl) z w
theorem adG:m 7 Hz:=(adv b).FQ b 125 122 2 rfl (b.q 2 _ rfl) z w
theorem adR:m 9 HG:=(adG b).FQ b 334 317 3 rfl (b.q 3 _ rfl) z w
theorem ad1:m 10 HN:=(adR b).F b (b.q 4 _ rfl) z w
theorem aeb:m 11 DH:=(ad1 b).F b (b.q 5 _ rfl) z w
theorem aed:m 12 DI:=(aeb b).F b (b.q 6 _ rfl) z w
theorem aee:m 13 HR:=(aed b).F b (b.q 7 _ rfl) z w
theorem ac9:m 14 G1:=(aee b).F b (b.q 8 _ rfl) z w
theorem ac_:m 15 G2:=(ac9 b).F b (b.q 9 _ rfl) z w
theorem ada:m 16 G3:=(ac_ b).F b (b.q 10 _ rfl) z w
theorem adb:m 17 G4:=(ada b).F b (b.q 11 _ rfl) z w
theorem ade:m 18 G5:=(adb b).F b (b.q 12 _ rfl) z w
theorem adf:m 19 G6:=(ade b).F b (b.q 13 _ rfl) z w
theorem adg:m 20 G7:=(adf b).F b (b.q 14 _ rfl) z w
theorem adh:m 21 G8:=(adg b).F b (b.q 15 _ rfl) z w
theorem adi:m 22 G9:=(adh b).F b (b.q 16 _ rfl) z w
theorem adj:m 23 G_:=(adi b).F b (b.q 17 _ rfl) z w
theorem adk:m 24 Hg:=(adj b).F b (b.q 18 _ rfl) z w
theorem adl:m 25 Hh:=(adk b).F b (b.q 19 _ rfl) z w
theorem adm:m 26 Dm:=(adl b).F b (b.q 20 _ rfl) z w
theorem adn:m 27 Dn:=(adm b).F b (b.q 21 _ rfl) z w
theorem ado:m 28 Hi:=(adn b).F b (b.q 22 _ rfl) z w
theorem adp:m 29 uq:=(ado b).F b (b.q 23 _ rfl) z w
theorem adq:m 30 Hj:=(adp b).F b (b.q 24 _ rfl) z w
theorem ads:m 31 Dp:=(adq b).F b (b.q 25 _ rfl) z w
theorem adt:m 32 Dq:=(ads b).F b (b.q 26 _ rfl) z w
theorem adu:m 33 Hl:=(adt b).F b (b.q 27 _ rfl) z w
theorem adw:m 34 Hp:=(adu b).F b (b.q 28 _ rfl) z w
theorem adx:m 35 Hq:=(adw b).F b (b.q 29 _ rfl) z w
theorem ady:m 36 Hr:=(adx b).F b (b.q 30 _ rfl) z w
theorem adz:m 37 Hs:=(ady b).F b (b.q 31 _ rfl) z w
theorem adA:m 38 Ht:=(adz b).F b (b.q 32 _ rfl) z w
theorem adB:m 39 Hu:=(adA b).F b (b.q 33 _ rfl) z w
theorem adC:m 40 Hv:=(adB b).F b (b.q 34 _ rfl) z w
theorem adD:m 41 Hw:=(adC b).F b (b.q 35 _ rfl) z w
theorem adE:m 42 Hx:=(adD b).F b (b.q 36 _ rfl) z w
theorem adF:m 43 Hy:=(adE b).F b (b.q 37 _ rfl) z w
theorem adH:m 44 HA:=(adF b).F b (b.q 38 _ rfl) z w
theorem adI:m 45 HB:=(adH b).F b (b.q 39 _ rfl) z w
theorem adJ:m 46 HC:=(adI b).F b (b.q 40 _ rfl) z w
theorem adK:m 47 Dr:=(adJ b).F b (b.q 41 _ rfl) z w
theorem adL:m 48 Ds:=(adK b).F b (b.q 42 _ rfl) z w
theorem adM:m 49 HD:=(adL b).F b (b.q 43 _ rfl) z w
theorem adN:m 50 HE:=(adM b).F b (b.q 44 _ rfl) z w
theorem adO:m 51 Dt:=(adN b).F b (b.q 45 _ rfl) z w
theorem adP:m 52 Du:=(adO b).F b (b.q 46 _ rfl) z w
theorem adQ:m 53 HF:=(adP b).F b (b.q 47 _ rfl) z w
theorem adS:m 54 HH:=(adQ b).F b (b.q 48 _ rfl) z w
theorem adT:m 55 HJ:=(adS b).F b (b.q 49 _ rfl) z w
theorem adU:m 56 Dv:=(adT b).F b (b.q 50 _ rfl) z w
theorem adV:m 57 Dw:=(adU b).F b (b.q 51 _ rfl) z w
theorem adW:m 58 Dy:=(adV b).F b (b.q 52 _ rfl) z w
theorem adX:m 59 HK:=(adW b).F b (b.q 53 _ rfl) z w
theorem O0:m 60 HL:=(adX b).F b (b.q 54 _ rfl) z w
theorem OT:∀g,oH (60+1+g) 557 (vo g)
 |0=>⟨λa a a e=>nomatch e⟩
 |g+1=>((m.a0 ((O0 b).aH (N:=60+g) (I.le_add_right _ _)) (b.q 55 _ rfl).bF (by rw[show 60+g+1=60+1+g by omega];exact OT g) dM).bg b.bf z (b.q 55 _ rfl).cU).aH ef
theorem adY:m 161 A0:=m.a0 ((O0 b).aH (N:=160) c_) (b.q 55 _ rfl).bF ((OT b 100).aH c_) dM
theorem adZ:m 162 HM:=(adY b).F b (b.q 56 _ rfl) z w
theorem ad0:m 163 Dz:=(adZ b).F b (b.q 57 _ rfl) z w
theorem ad2:m 164 DA:=(ad0 b).F b (b.q 58 _ rfl) z w
theorem ad3:m 165 DB:=(ad2 b).F b (b.q 59 _ rfl) z w
theorem ad4:m 166 HO:=(ad3 b).F b (b.q 60 _ rfl) z w
theorem ad5:m 167 DC:=(ad4 b).F b (b.q 61 _ rfl) z w
theorem ad6:m 168 DE:=(ad5 b).F b (b.q 62 _ rfl) z w
theorem ad7:m 169 DF:=(ad6 b).F b (b.q 63 _ rfl) z w
theorem ad8:m 170 HP:=(ad7 b).F b (b.q 64 _ rfl) z w
theorem ad9:m 171 yE:=(ad8 b).F b (b.q 65 _ rfl) z w
theorem ad_:m 172 HQ:=(ad9 b).F b (b.q 66 _ rfl) z w
theorem aea:m 173 DG:=(ad_ b).F b (b.q 67 _ rfl) z w
theorem aec:m 174 yF:=(aea b).F b (b.q 68 _ rfl) z w
theorem ab6:oH 175 643 AE:=(aec b).bg b.bf z (b.q 69 _ rfl).cU
end
end
end
mutual
example _ h σ r jQ ad q i w e a n[by simp]List p some map length c b hi u v σ' hq j m jH I upd W Option ρ L k hj s D hl Nat cells jD ζ V x lF Q Res set Step hr jE cont _ _ _ _ _ _ _ _ _ _ _ obj E ac h2 isSome l trans e1 hv o list g h1[(by simp;omega)]hc Role e2 P σ₀ «at» if_neg if_pos inv known ha' M dl fl hn hm hp w₀[Z e h]ρ' arr cell items inj(J:W as l0 aF b e h)da hf range{g:M}[(j,s)]bnd error hu off[.lc k][.la k]Bool ha ret(D:jU)[(f,us)]Inv hs pool(e:kD)R f fr le_refl nil t{D:jU}Off adopt at_ grow int live push{α:Type}(g:M)[.ll g][.la h.G.A.q][⟨⟨?_,B.ok,B.kn⟩,?_⟩]False Int bo elim getElem?_eq_none len old[C r c (o aj)][L f ah j]«by»(B:a3 b e h)(J:W b e h w jM w')(bv:as.q<=z){f:aY}Except getElem?_append_left getElem?_eq_some_iff getElem?_set_ne hx map_congr_left row tup(n:Q×Q)(R:α)(a:HI b e r)[(by rw[i];rfl)][D.Fy n]{a7:Type}[.lc h.G.N.q](aV:bd e h z)[C e (.ll h.G.A.q) z][.ak (us.p tv)][.aN h.K.A.q]absurd hb he isSome_map length_set refl z[.aA g][.mz g][.aN g](aj:ko)[o aj][L q' aq s]{v:Q}(ao:∀k,k<D.N.q->jM aW=e aW)(aZ:∀k,k<D.A.q->jM aX=e aX)(n:aY×m Q)(a:oA D)[D.Ci n][C e c z]{j s:Q}[M.a_ _][su e aR]{ts us:m Q}[.ak (us.p (lv e))][{h with G:=h.G.n6 g a2}][h.G.A.V g a2][.inr λa=>a][.ll y]{z:M}[[.aa z]][.ak [tv j,tv s]][.mz h.K.N.q][x6 f]{ab:O->Y->Prop}[{h with K:=h.K.n6 g a2}][h.K.A.V g a2][.a0 v][.next F][EV (cG _ _ _ n)][by rfl]congrArg c₀ dict e3 getElem?_eq_getElem h0 hg injEq inst le_trans lt_of_lt_of_le mem_append mem_singleton propext scratch{r:jL->az aY}{s:jL->az jI}{k:M}[aS z H b][j=s][e bm][lv e][e b4][e b5][(tv v,lv e v)]{E':O->Y->Prop}[z b](r:ap->α)(n:b<+:w){c:E (bD O β×Y)}{c:ap}(a:bd e h g){af:m Q}[a v ai]{n:Q×Q}[D.uW g n][D.tR g n]{jM:kD}[B.ok.r n (mF aE)][B.ok.j n (mF aE)](aU:∀v∈us,jP h.G v)[o cj][C e bm z][ru df g f][.ll h.G.A.q]{al:Y->Prop}[.ak ((m.aP h.K.N.q).p (λg=>O.aa cW)++cp)]{b:Y}[C e cr z][.ak ((m.aP h.K.A.q).p (λg=>O.aa cX)++cp)][.aA h.K.A.q]«do»[C e dn H][C dp bV z][o bU][.ak [.str cs,.aa z]][C e b3 z][.cC ((h.ax++[v]).p λv=>cY)][.ak (af.p tv)][.ak [.aa (e .bJ),.bh n]][by omega]DecidableEq choose ge getElem?_set_self hk length_append length_singleton map_append mem_or_eq_of_mem_set mem_range range_succ some_of[ki al a8 aK b][k+H][(.ok j,w)][s F w][⟨1,_,un 0,a⟩][H j w][⟨H+1,c,(un H).ag cD,al⟩]{j s:M}(j s:M)(h:kG)[e b3][e .N][e .A][e .ax][e .a5][e .bJ](c:ap)(X:(r c).ae=true)[b.V (e c) aj][L f j](X:r c=none\/¬pin c)[b++[aj]][C e c b.q][⟨λf o' i=>?_,λf q' j s i=>?_⟩]{Q':β->Y->Prop}(a:U c T ab)(t:g<b.q){α β:Type}[D.bj n][D.lE n][D.lC g n][D.n6 g n](j:jP D n.1)(s:jP D n.2){n:aY×m Q}(j:∀v∈n.2,jP D v)[D.uW g _](af:m α)(a:∀v∈af,jP D v)(aZ:jP h.G j)(bX:jP h.G s)[C e bR b.q][{h with G:=h.G.bj aR}][.inl aC][o ch](s:aY)[mF aE][.lc g][.bool s][{h with G:=h.G.lC g aR}](t:h.G.A[g]?=o (f,ts))[(by show (E.p _ _).ae=true;rw[t];rfl)][⟨⟨?_,B.ok.n6 aU,λv ai=>(B.kn v ai).le (h.G.tR _ _)⟩,?_⟩]{g z:M}(aD:b[z]?=o cj)[.la g]{us:m Q}[λP=>z][C bT bn b.q][{h with G:=h.G.lE a2}][.inl (by rw[d _ _ l];exact aC)][ru eE 0 f][h.G.A++[a2]][k+1][λg=>O.aa cW][λg=>O.aa cX]{e:kD}(a:∀k,c≠ .lc k)(h':∀k,c≠ .la k)[{h with K:=h.K.bj aR}][o cq][.ak [.str cs,.aa H]][{h with K:=h.K.lE a2}][h.K.A++[a2]]{T:jI->Y->Prop}[{h with K:=h.K.lC g aR}](t:h.K.A[g]?=o (f,ts))[ko.ak ((m.aP (h.K.A.V g a2).q).p _)][R::c][.aA y][{h with ax:=h.ax++[v]}][{h with a5:=af}][{h with pos:=n}][j++v]be:True:=x
noncomputable def U bk(c:E (bD O α×Y))(T:α->Y->Prop)(ab:O->Y->Prop):Prop:=match c with
 |o (.ok j,b)=>T j b
 |o (.aT i,b)=>ab i b
 |none=>bp
mutual
section
variable {α β:Type}{z:az α}{H:α->az β}{b w:Y}{T:β->Y->Prop}{ab:O->Y->Prop}
theorem br{j:α}(a:z b=o dM)(al:U dP T ab):U cS T ab:=by unfold aS;rw[a];exact al
theorem e5{i:O}(a:z b=o (.aT i,w))(al:ab i w):U cS T ab:=by unfold aS;rw[a];exact al
theorem lU{Q':α->Y->Prop} cZ(a:U c0 Q' E')(al:∀j w,Q' j w->U dP T ab)(dA:∀i w,E' i w->ab i w):U cS T ab:=by
 unfold aS;revert a;cases z b with
 |none=>exact λa=>a.bs
 |o c=>
  obtain ⟨c,w⟩:=c;cases c with
  |ok j=>exact λa=>al j w a
  |aT i=>exact λa=>dA i w a
theorem ash{j:β}(al:T j b):U (a0 j b) T ab:=al
theorem U.mono c3 d8 cZ d9(f:∀j b,T j b->Q' j b)(i:∀j b,ab j b->E' j b):U c Q' E':=by
 unfold U at a⊢
 split at a
 ·exact f _ _ a
 ·exact i _ _ a
 ·exact a
theorem U.and c3 d8 cZ d9(h':U c Q' E'):U c (λj b=>T j b/\Q' j b) (λj b=>ab j b/\E' j b):=by
 unfold U at a h'⊢
 split at a<;>first|exact ⟨a,h'⟩|exact a
theorem U.dJ c3(a:U c T λP P=>bp):∃j w,c=o dM/\T j w:=by
 unfold U at a
 split at a
 ·exact ⟨_,_,rfl,a⟩
 ·exact a.bs
 ·exact a.bs
theorem pK{z:az β}(a:U c0 T ab):U (aS z (λc=>a0 c) b) T ab:=lU a (λP P f=>f) λP P f=>f
end
@[simp] theorem CR bQ es(H:aY->az a7):jY ev H=H s:=rfl
@[simp] theorem atc bQ es(H:O->az a7):k6 .Not ev H=H (.bool (!s)):=rfl
@[simp] theorem aqL bQ(af:m O)(H:m O->az a7):unpackK (.bK af) H=H af:=rfl
@[simp] theorem Mk bQ(j s:O)(H:O->O->az a7):two [j,s] H=H j s:=rfl
theorem EV di dk(a:al b):vI al b=o (.ok (),b):=by unfold vI;rw[av a]
theorem asy di{s:O->jL->az jI} eV ct(ar:m O->jL->Y->Prop)
  (cG:∀af F b,ar af F b->al b)(a4:∀R c F b,ar eZ F b->U (s R F b) (λaB w=>match aB with| .a0 v=>T cw w| .next aH=>ar c aH w| .Z aH=>ar c aH w) ab)
  (bY:∀F b,ar [] F b->T cx b):∀aK F b,ar aK F b->U (forL al s aK F b) T ab:=by
 intro aK;induction aK with
 |ba=>intro F b n;exact br cy (bY _ _ n)
 |cons R c ih=>
  intro F b n;refine br cy ?_;refine lU (a4 R c F b n) (λaB w a=>?_) λP P a=>a;cases aB with
  |a0 v=>exact a
  |next aH=>exact ih _ _ a
  |Z aH=>exact ih _ _ a
theorem agk di{a8:O->az (m O)}{T:m O->Y->Prop}(ar:m O->m O->Y->Prop)
  (cG:∀af j b,ar af j b->al b)(a4:∀R c j b,ar eZ j b->U (a8 R b) (λv w=>ar c e4 w) λP P=>bp)
  (bY:∀j b,ar [] j b->T j b) ct:∀aK b,ar aK [] b->U dK T ab:=by
 have key:∀aK j b,ar aK j b->U dK (λv w=>T e4 w) ab:=by
  intro aK;induction aK with
  |ba=>intro j b n;refine br cy ?_;show T (j++[]) b;rw[m.append_nil];exact bY _ _ n
  |cons R c ih=>intro j b n;refine br cy ?_;obtain ⟨v,w,i,a⟩:=(a4 R c j b n).dJ;refine br (j:=v) (w:=w) (by unfold quiet;rw[i]) ?_;refine lU (ih _ _ a) (λbb oF f=>?_) λP P f=>f;show T (j++(v++bb)) oF;rw[<-m.append_assoc];exact f
 intro aK b n;exact (key aK [] b n).mono (λj w f=>by simpa using f) λP P f=>f
theorem VE cP cQ:∀{k F b c},lZ r s k F b=o c->∀H,lZ r s dL F b=o c:=by
 intro k;induction k with
 |zero=>intro F b c a;cases a
 |succ k ih=>
  intro F b c a H;rw[show k+1+H=dL+1 by omega];unfold lZ aS at a⊢;revert a;cases r F b with
  |none=>exact λa=>a
  |o f=>
   obtain ⟨f,w⟩:=f;cases f with
   |aT i=>exact λa=>a
   |ok bb=>
    cases bb with
    |false=>exact λa=>a
    |true=>
     dsimp only;cases s F w with
     |none=>exact λa=>a
     |o f=>
      obtain ⟨f,oF⟩:=f;cases f with
      |aT i=>exact λa=>a
      |ok aB=>
       cases aB with
       |a0 v=>exact λa=>a
       |next aH=>exact λa=>ih a H
       |Z aH=>exact λa=>ih a H
theorem C0 cP cQ{F:jL} dk cR{c:bD O jI×Y}(a:lZ r s k F b=o c):lG r s F b=o c:=by
 have bH:∃k,(lZ r s k F b).ae=true:=⟨k,by rw[a];rfl⟩;unfold lG;rw[dif_pos bH];have a4:=bH.choose_spec;cases i:lZ r s bH.dz F b with
 |none=>rw[i] at a4;cases a4
 |o f=>have am:=VE i k;have ad:=VE a bH.dz;rw[M.add_comm] at ad;rw[am] at ad;exact ad
noncomputable def aeA(r:jL->az aY)(s:jL->az jI)(H:M)(f:bD O jI)(b:Y):E (bD O jI×Y):=match f with
 | .ok cw=>o (.ok cw,b)
 | .ok cx=>lZ r s H F b
 | .ok (.Z F)=>lZ r s H F b
 | .aT R=>o (.aT R,b)
theorem ath cP cQ eV ct(ar:M->jL->Y->Prop)
  (a4:∀k F b,ar k F b->U (r F b) (λbb w=>match bb with
   |false=>T cx w
   |true=>U dN (λaB oF=>match aB with
    | .a0 v=>T cw oF
    | .next aH=>∃z,z<k/\ar z aH oF
    | .Z aH=>∃z,z<k/\ar z aH oF) ab) ab):∀{k F b},ar k F b->U (lG r s F b) T ab:=by
 have key:∀k F b,ar k F b->∃H c,lZ r s H F b=o c/\U (o c) T ab:=by
  intro k;induction k using M.strongRecOn with
  |_ k ih=>
   intro F b n;have a:=a4 k F b n;cases i:r F b with
   |none=>rw[i] at a;exact a.bs
   |o f=>
    obtain ⟨f,w⟩:=f;cases f with
    |aT R=>rw[i] at a;refine ⟨1,(.aT R,w),?_,a⟩;unfold lZ aS;rw[i]
    |ok bb=>
     rw[i] at a;cases bb with
     |false=>refine ⟨1,(.ok cx,w),?_,a⟩;unfold lZ aS;rw[i];rfl
     |true=>
      replace a:U dN _ ab:=a;cases aq:s F w with
      |none=>rw[aq] at a;exact a.bs
      |o f=>
       obtain ⟨f,oF⟩:=f;have un:∀H,lZ r s (H+1) F b=aeA r s H f oF:=by
        intro H;show aS _ _ _=_;unfold aS;rw[i];dsimp only;rw[aq];clear aq a;cases f with
        |aT R=>rfl
        |ok aB=>cases aB<;>rfl
       cases f with
       |aT R=>rw[aq] at a;exact dO
       |ok aB=>
        rw[aq] at a;cases aB with
        |a0 v=>exact dO
        |next aH=>obtain ⟨z,aD,p'⟩:=a;obtain ⟨H,c,cD,al⟩:=ih z aD _ _ p';exact dQ
        |Z aH=>obtain ⟨z,aD,p'⟩:=a;obtain ⟨H,c,cD,al⟩:=ih z aD _ _ p';exact dQ
 intro k F b n;obtain ⟨H,c,i,al⟩:=key k F b n;rw[C0 i];exact al
theorem asx bQ{z:az jI}{H:jL->az a7}{kr:O->az a7} dk{T:a7->Y->Prop} ct
  (a:U c0 (λaB w=>match aB with| .a0 v=>U (kr v w) T ab| .next F=>U (H F w) T ab| .Z _=>bp) ab):U (aS z (kY H kr) b) T ab:=by
 refine lU a (λaB w f=>?_) λP P f=>f;cases aB with
 |a0 v=>exact f
 |next F=>exact f
 |Z F=>exact f.bs
inductive Q where
 |num (g:bq)|ba|aJ (k:M)|aI (k:M)
 deriving dy
theorem Q.num.aL{j s:bq}(a:Q.num j= .num s):j=s:=by cases a;rfl
theorem Q.aJ.aL dR(a:Q.aJ j= .aJ s):j=s:=by cases a;rfl
theorem Q.aI.aL dR(a:Q.aI j= .aI s):j=s:=by cases a;rfl
@[simp] theorem Q.num.cH(j s:bq):(Q.num j= .num s)=cT:=cN ⟨Q.num.aL,cA _⟩
@[simp] theorem Q.aJ.cH dS:(Q.aJ j= .aJ s)=cT:=cN ⟨Q.aJ.aL,cA _⟩
@[simp] theorem Q.aI.cH dS:(Q.aI j= .aI s)=cT:=cN ⟨Q.aI.aL,cA _⟩
structure jU where
 N:m (Q×Q)
 A:m (aY×m Q)
structure kG where
 G:jU
 K:jU
 a5:m Q
 ax:m Q
 bJ:m bq
 pos:bq
inductive ap where
 |lc (k:M)|la (k:M)|ll (k:M)|mz (k:M)|aN (k:M)|aA (k:M)
 |N|A|ax|a5|state|mC|bJ
 deriving dy
noncomputable abbrev kD:=ap->M
noncomputable def lv a6:Q->O
 | .num g=> .bh g
 | .ba=> .glob 64
 | .aJ k=> .aa (e aW)
 | .aI k=> .aa (e aX)
noncomputable def tv:Q->O
 | .num g=> .bK [.str yQ,.bh g]
 | .ba=> .bK [.str wK]
 | .aJ k=> .bK [.str vE,.bh k]
 | .aI k=> .bK [.str Bm,.bh k]
noncomputable def su a6 bL:ko:= .cI 82 [(p6,lv e n.1),(nj,lv e n.2)]
noncomputable def ru a6 bl:aY->ko
 |true=> .cI 104 [(o8,.aa cU),(sf,.none)]
 |false=> .cI 125 [(oJ,.aa cU)]
noncomputable def x6:aY->Str
 |true=>Bp
 |false=>vB
noncomputable def Z a6 dT:ap->E ko
 | .lc g=>(h.G.N[g]?).p (su e)
 | .la g=>(h.G.A[g]?).p λn=>ru e g n.1
 | .ll g=>(h.G.A[g]?).p λn=> .ak (n.2.p cV)
 | .mz g=>(h.K.N[g]?).p λn=> .ak [tv n.1,tv n.2]
 | .aN g=>(h.K.A[g]?).p λn=> .ak [.str (x6 n.1),.aa dU]
 | .aA g=>(h.K.A[g]?).p λn=> .ak (n.2.p tv)
 | .N=>o (.ak ((m.aP h.K.N.q).p λg=> .aa cW))
 | .A=>o (.ak ((m.aP h.K.A.q).p λg=> .aa cX))
 | .ax=>o (.cC (h.ax.p λv=>cY))
 | .a5=>o (.ak (h.a5.p tv))
 | .state=>o (.cC [(.str vG,.aa dV),(.str wX,.aa dW),(.str Bo,.aa dX),(.str wQ,.aa dY)])
 | .mC=>o (.ak [.aa dZ,.bh h.pos])
 | .bJ=>o (.ak (h.bJ.p .bh))
noncomputable def jP a1:Q->Prop
 | .aJ k=>k<D.N.q
 | .aI k=>k<D.A.q
 |_=>True
structure oA(D:jU):Prop where
 r:∀n∈D.N,jP D n.1/\jP D n.2
 j:∀n∈D.A,∀v∈n.2,jP D v
noncomputable def C bk c1 d0 bM:ap->α:=λr'=>if r'=c then R else r r'
theorem S bk c1 d0 bM:C r c R c=R:=by simp [C]
theorem d bk c1{c r':ap} bM(a:r'≠c):C r c R r'=r r':=by simp [C,a]
structure HI(b:Y)(e:kD)(r:ap->E ko):Prop where
 bf:∀c aj,r c=o aj->b[e c]?=o aj
 aL:∀c r',(r c).ae=true->(r r').ae=true->e c=e r'->c=r'
noncomputable def pin:ap->Prop
 | .ll _=>bp
 | .aA _=>bp
 |_=>True
structure q_(b:Y)(e:kD)(r:ap->E ko)(w:Y)(jM:kD)(c':ap->E ko):Prop where
 bu:b.q<=w.q
 a9:∀g,g<b.q->(∀c,(r c).ae=true->e c≠g)->w[g]?=b[g]?/\∀c,(c' c).ae=true->jM c≠g
 l7:∀c,pin c->(r c).ae=true->jM c=e c
 bi:∀c,(r c).ae=true->(c' c).ae=true
mutual
section
variable {b w oF:Y}{e jM yT:kD}{r c' c'':ap->E ko}{c:ap}{aj:ko}
theorem HI.lt bN d1:e c<b.q:=by obtain ⟨aj,i⟩:=E.isSome_iff_exists.mp X;exact (m.bF.mp (a.bf c aj i)).1
theorem q_.b1:q_ b e r b e r:=⟨M.a_ _,λP P a=>⟨rfl,a⟩,λP P P=>rfl,λP a=>a⟩
theorem q_.ag(j:q_ b e r w jM c')(s:q_ w jM c' oF yT c''):q_ b e r oF yT c'':=
 ⟨M.cJ j.bu s.bu,λg t a=>by obtain ⟨ah,am⟩:=j.a9 g t a;obtain ⟨aq,ad⟩:=s.a9 g (M.cK t j.bu) am;exact ⟨aq.ag ah,ad⟩,λc aE X=>(s.l7 c aE (j.bi c X)).ag (j.l7 c aE X),λc a=>s.bi c (j.bi c a)⟩
theorem HI.V bN d1 b6:HI d2 e bw/\q_ b e r d2 e bw:=by
 have L:∀f,(C r c b7 f).ae=true->(r f).ae=true:=by
  intro f x;by_cases i:f=c
  ·rw[i];exact X
  ·rw[d _ _ i] at x;exact x
 refine ⟨⟨λf o' i=>?_,λf q' j s=>a.aL f q' d3 (L q' s)⟩,⟨by simp,λg t aO=>⟨?_,λf j=>aO f d3⟩,λP P P=>rfl,λf x=>?_⟩⟩
 ·by_cases e':f=c
  ·clear L;subst e';rw[S] at i;cases i;rw[m.dB (a.lt X)]
  ·have x:(r f).ae=true:=L f bO;rw[d _ _ e'] at i;rw[m.bG (λb2=>e' (a.aL f c x X b2.symm))];exact a.bf f o' i
 ·exact m.bG (aO c X)
 ·by_cases i:f=c
  ·clear X L;subst i;rw[S];rfl
  ·rw[d _ _ i];exact x
theorem HI.new bN d4 b6:HI d5 d6 bw/\q_ b e r d5 d6 bw:=by
 have L:∀f,f≠c->(C r c b7 f).ae=true->(r f).ae=true:=by intro f i x;rw[d _ _ i] at x;exact x
 refine ⟨d7,⟨by simp,λg t aO=>⟨m.bE t,λf j=>?_⟩,λf aE x=>?_,λf x=>?_⟩⟩
 ·by_cases e':f=c
  ·clear X L;subst e';rw[S] at i⊢;cases i;simp
  ·have x:(r f).ae=true:=L f e' bO;rw[d _ _ e'] at i⊢;rw[m.bE (a.lt x)];exact a.bf f o' i
 ·by_cases ah:f=c
  ·by_cases aq:q'=c
   ·rw[ah,aq]
   ·clear X j;subst ah;rw[S,d _ _ aq] at i;have:=a.lt b8;omega
  ·by_cases aq:q'=c
   ·clear X s;subst aq;rw[S,d _ _ ah] at i;have:=a.lt bx;omega
   ·rw[d _ _ ah,d _ _ aq] at i;exact a.aL f q' bx b8 i
 ·by_cases ah:f=c
  ·clear X L j;subst ah;rw[S];omega
  ·rw[d _ _ ah];exact aO f bx
 ·by_cases ah:f=c
  ·clear L;subst ah;rcases X with X|X
   ·rw[X] at x;cases x
   ·exact bW aE X
  ·rw[d _ _ ah]
 ·by_cases i:f=c
  ·clear X L;subst i;rw[S];rfl
  ·rw[d _ _ i];exact x
theorem HI.bg bN c2:HI w e r/\q_ b e r w e r:=by obtain ⟨τ,rfl⟩:=n;exact ⟨⟨λf aj i=>by rw[m.bE (a.lt bO)];exact a.bf f aj i,a.aL⟩,⟨by simp,λg t aO=>⟨m.bE t,aO⟩,λP P P=>rfl,λP a=>a⟩⟩
end
structure a3(b:Y)(e:kD)(h:kG):Prop where
 t:HI b e aG
 ok:oA h.G
 kn:∀v∈h.ax,jP h.G v
structure W(b:Y)(e:kD)(h:kG)(w:Y)(jM:kD)(w':kG):Prop where
 aw:a3 w jM w'
 st:q_ b e aG w jM (Z jM w')
noncomputable def bd a6 dT bl:Prop:=∀c,(Z e h c).ae=true->e c≠g
mutual
section
variable {b w oF:Y}{e jM yT:kD}{h w' w'':kG}
theorem W.b1 bz:W b e h b e h:=⟨B,.b1⟩
theorem W.ag(j:W b e h w jM w')(s:W w jM w' oF yT w''):W b e h oF yT w'':=⟨s.aw,j.st.ag s.st⟩
theorem W.bg bz c2:W b e h w e h:=⟨⟨(B.t.bg n).1,B.ok,B.kn⟩,(B.t.bg n).2⟩
theorem a3.bg bz c2:a3 w e h:=(W.bg B n).aw
theorem a3.lt bz c4(a:(Z e h c).ae=true):e c<b.q:=B.t.lt a
theorem a3.aV bz aQ(a:b.q<=g):bd e h g:=λc X i=>by have:=B.lt X;omega
theorem W.aV bA aQ d_ c5:bd jM w' g:=(J.st.a9 g t a).2
theorem W.same bA aQ d_ c5:w[g]?=b[g]?:=(J.st.a9 g t a).1
theorem a3.cO bz aQ c5 b6:a3 (b.V g aj) e h:=
 ⟨⟨λc o' i=>by rw[m.bG (λb2=>a c bO b2.symm)];exact B.t.bf c o' i,B.t.aL⟩,B.ok,B.kn⟩
theorem W.cO bA aQ(a:bd jM w' g)(t:b.q<=g) b6:W b e h (w.V g aj) jM w':=
 ⟨J.aw.cO a aj,⟨by rw[m.b0];exact J.st.bu,λy I aO=>by obtain ⟨j,s⟩:=J.st.a9 y I aO;exact ⟨by rw[m.bG dx];exact j,s⟩,J.st.l7,J.st.bi⟩⟩
theorem W.more bA(n:w<+:oF):W b e h oF jM w':=J.ag (W.bg J.aw n)
theorem Cn b9 bc(a:jP D v) b_ ca:lv jM v=lv e v:=by
 cases v with
 |num g=>rfl
 |ba=>rfl
 |aJ k=>show O.aa _=O.aa _;rw[ao k a]
 |aI k=>show O.aa _=O.aa _;rw[aZ k a]
theorem bZ ea{R:E α}{a8:α->β}:(R.p a8).ae=R.ae:=by cases R<;>rfl
theorem FL a6 cR(a:k<h.G.N.q):(Z e h aW).ae=true:=by show (E.p _ _).ae=true;rw[bZ,m.cE a];rfl
theorem FJ a6 cR(a:k<h.G.A.q):(Z e h aX).ae=true:=by show (E.p _ _).ae=true;rw[bZ,m.cE a];rfl
theorem W.lv bA b9(a:jP h.G v):lv jM v=lv e v:=
 Cn a (λk aC=>J.st.l7 aW trivial (FL e aC)) λk aC=>J.st.l7 aX trivial (FJ e aC)
theorem W.FP bA c6(a:∀v∈af,jP h.G v):af.p (Mine.Internal.lv jM)=af.p (Mine.Internal.lv e):=
 m.bI λv ai=>J.lv c7
end
structure jU.nW(D W':jU):Prop where
 r:D.N.q<=W'.N.q
 j:D.A.q<=W'.A.q
theorem jP.le{D W':jU}(a:D.nW W') b9(aj:jP D v):jP W' v:=by
 cases v with
 |num g=>trivial
 |ba=>trivial
 |aJ k=>exact M.cK aj a.r
 |aI k=>exact M.cK aj a.j
theorem jU.nW.b1 a1:D.nW D:=⟨M.a_ _,M.a_ _⟩
theorem jU.nW.ag{D W' O1:jU}(j:D.nW W')(s:W'.nW O1):D.nW O1:=⟨M.cJ j.r s.r,M.cJ j.j s.j⟩
noncomputable def jU.bj a1 bL:jU:=⟨D.N++[n],D.A⟩
noncomputable def jU.lE a1 cb:jU:=⟨D.N,D.A++[n]⟩
noncomputable def jU.lC a1 bl bL:jU:=⟨D.N.V g n,D.A⟩
noncomputable def jU.n6 a1 bl cb:jU:=⟨D.N,D.A.V g n⟩
theorem jU.Fy a1 bL:D.nW eb:=⟨by simp [jU.bj],M.a_ _⟩
theorem jU.Ci a1 cb:D.nW ec:=⟨M.a_ _,by simp [jU.lE]⟩
theorem jU.uW a1 bl bL:D.nW ed:=⟨by simp [jU.lC],M.a_ _⟩
theorem jU.tR a1 bl cb:D.nW ee:=⟨M.a_ _,by simp [jU.n6]⟩
theorem oA.bj bc cc c8 ef eg:oA eb:=by
 refine ⟨λf x=>?_,λf x v ai=>(a.j f x v ai).le bP⟩;rcases m.cL.mp x with x|x
 ·exact ⟨(a.r f x).1.le bP,(a.r f x).2.le bP⟩
 ·rw[m.cM.mp x];exact ⟨j.le bP,s.le bP⟩
theorem oA.lE bc cc eh ei:oA ec:=by
 refine ⟨λf x=>⟨(a.r f x).1.le cd,(a.r f x).2.le cd⟩,λf x v ai=>?_⟩;rcases m.cL.mp x with x|x
 ·exact (a.j f x v ai).le cd
 ·rw[m.cM.mp x] at ai;exact (j v ai).le cd
theorem oA.lC bc cc aQ c8 ef eg:oA ed:=by
 refine ⟨λf x=>?_,λf x v ai=>(a.j f x v ai).le c9⟩;rcases m.dG x with x|rfl
 ·exact ⟨(a.r f x).1.le c9,(a.r f x).2.le c9⟩
 ·exact ⟨j.le ej,s.le ej⟩
theorem oA.n6 bc cc aQ eh ei:oA ee:=by
 refine ⟨λf x=>⟨(a.r f x).1.le c_,(a.r f x).2.le c_⟩,λf x v ai=>?_⟩;rcases m.dG x with x|rfl
 ·exact (a.j f x v ai).le c_
 ·exact (j v ai).le (D.tR g _)
theorem rt bk ek bM bl:(af++[R])[g]?=if g=af.q then o R else af[g]?:=by
 by_cases a:g=af.q
 ·subst a;simp
 ·rw[au a];rcases M.lt_or_gt_of_ne a with a|a
  ·exact m.bE a
  ·rw[m.bt an,m.bt dx]
theorem qc bk ek bM(k g:M)(a:k<af.q):(af.V k R)[g]?=if g=k then o R else af[g]?:=by
 by_cases i:g=k
 ·subst i;rw[av rfl,m.dB a]
 ·rw[au i,m.bG (Ne.symm i)]
theorem qB ea{aj:E α}{a8 al:α->β}(a:∀R,aj=o R->a8 R=al R):aj.p a8=aj.p al:=by
 cases aj with
 |none=>rfl
 |o R=>show o _=o _;rw[a R rfl]
mutual
section
variable {as b:Y}{l0 e:kD}{cB r:ap->E ko}{c:ap}{aj:ko}{z:M}
theorem HI.be bN(J:q_ as l0 cB b e r) d4(aD:b[z]?=o aj)(aV:∀f,(r f).ae=true->e f≠z) bB:
  HI b ce bw/\q_ as l0 cB b ce bw:=by
 have L:∀f,f≠c->(C r c b7 f).ae=true->(r f).ae=true:=by intro f i x;rw[d _ _ i] at x;exact x
 refine ⟨d7,⟨J.bu,λg t aO=>⟨(J.a9 g t aO).1,λf j=>?_⟩,λf aE x=>?_,λf x=>?_⟩⟩
 ·by_cases e':f=c
  ·clear X L;subst e';rw[S] at i⊢;cases i;exact aD
  ·have x:(r f).ae=true:=L f e' bO;rw[d _ _ e'] at i⊢;exact a.bf f o' i
 ·by_cases ah:f=c
  ·by_cases aq:q'=c
   ·rw[ah,aq]
   ·clear X j;subst ah;rw[S,d _ _ aq] at i;exact bW i.symm (aV q' b8)
  ·by_cases aq:q'=c
   ·clear X s;subst aq;rw[S,d _ _ ah] at i;exact bW i (aV f bx)
   ·rw[d _ _ ah,d _ _ aq] at i;exact a.aL f q' bx b8 i
 ·by_cases ah:f=c
  ·clear X L j;subst ah;rw[S];omega
  ·rw[d _ _ ah];exact (J.a9 g t aO).2 f bx
 ·by_cases ah:f=c
  ·clear L;subst ah;rcases X with X|X
   ·have:=J.bi f x;rw[X] at this;cases this
   ·exact bW aE X
  ·rw[d _ _ ah];exact J.l7 f aE x
 ·by_cases i:f=c
  ·clear X L;subst i;rw[S];rfl
  ·rw[d _ _ i];exact J.bi f x
end
mutual
section
variable {as b:Y}{l0 e:kD}{aF h:kG}
theorem EA da bc c8(a:jP D n.1/\jP D n.2) b_ ca:su jM n=su e n:=by unfold su;rw[Cn a.1 ao aZ,Cn a.2 ao aZ]
theorem Co da bc c6 el b_ ca:af.p (lv jM)=af.p cV:=
 m.bI λv ai=>Cn c7 ao aZ
theorem KJ da bc c6 el b_ ca:
  (af.p λv=>(tv v,lv jM v))=af.p λv=>cY:=
 m.bI λv ai=>by rw[Cn c7 ao aZ]
theorem mF bk{af:m α} aQ{R:α}(a:af[g]?=o R):R∈af:=m.mem_of_getElem? a
theorem apk aM cf em en:
  W as l0 aF (b++[su e aR]) eo ep:=by
 have B:=J.aw;have aC:Z e h bR=none:=by show E.p _ _=_;rw[m.bt cg];rfl
 have a:=B.t.new eq ch;have ao:∀k,k<h.G.N.q->C e bR b.q aW=e aW:=λk aC=>d _ _ an;have ay:∀k,k<h.G.A.q->C e bR b.q aX=e aX:=λk aC=>d _ _ l;have i:Z eo ep=C aG bR er:=by
  funext c
  cases c with
  |lc g=>
   show E.p _ (h.G.N++[aR])[g]?=_;rw[rt];by_cases t:g=h.G.N.q
   ·subst t;rw[av rfl,S];show o _=o _;rw[EA ⟨aZ,bX⟩ ao ay]
   ·rw[au t,d _ _ an];exact qB λn aE=>EA db ao ay
  |la g=>rw[d _ _ l];exact qB λn P=>by cases a:n.1<;>rfl
  |ll g=>rw[d _ _ l];exact qB λn aE=>by rw[Co dc ao ay]
  |ax=>rw[d _ _ l];show o _=o _;rw[KJ B.kn ao ay]
  |_=>rw[d _ _ l];rfl
 refine ⟨⟨?_,B.ok.bj aZ bX,λv ai=>(B.kn v ai).le (h.G.Fy _)⟩,?_⟩
 ·rw[i];exact a.1
 ·rw[i];exact J.st.ag a.2
theorem L6 aM aQ(t:g<h.G.N.q) cf em en:
  W as l0 aF (b.V (e eu) ch) e ew:=by
 have B:=J.aw;have a:=B.t.V (FL e t) ch;have i:Z e ew=C aG eu er:=by
  funext c
  cases c with
  |lc y=>
   show E.p _ (h.G.N.V g aR)[y]?=_;rw[qc _ _ _ _ t];by_cases I:y=g
   ·clear t a;subst I;rw[av rfl,S];rfl
   ·rw[au I,d _ _ an];rfl
  |_=>rw[d _ _ l];rfl
 refine ⟨⟨?_,B.ok.lC aZ bX,λv ai=>(B.kn v ai).le (h.G.uW _ _)⟩,?_⟩
 ·rw[i];exact a.1
 ·rw[i];exact J.st.ag a.2
theorem apr aM aQ bC ci ex dd:
  W as l0 aF (b.V cU cj) e ck:=by
 have B:=J.aw;have L:g<h.G.A.q:=(m.bF.mp t).1;have a:=B.t.V (c:= .ll g) ey cj;have i:Z e ck=C aG bm de:=by
  funext c
  cases c with
  |la y=>
   rw[d _ _ l];show E.p _ cl[y]?=E.p _ _;rw[qc _ _ _ _ L];by_cases I:y=g
   ·clear L a;subst I;rw[av rfl,t];rfl
   ·rw[au I]
  |ll y=>
   show E.p _ cl[y]?=_;rw[qc _ _ _ _ L];by_cases I:y=g
   ·clear t L a;subst I;rw[av rfl,S];rfl
   ·rw[au I,d _ _ an];rfl
  |_=>rw[d _ _ l];rfl
 refine ez
 ·rw[i];exact a.1
 ·rw[i];exact J.st.ag a.2
theorem UW aM eA bC ci ex dd
  eB bS bB:
  W as l0 aF (b.V (e eC) dg) df ck:=by
 have B:=J.aw;have L:g<h.G.A.q:=(m.bF.mp t).1;have am:=B.t.be J.st (c:= .ll g) cm aD aV bv;have ad:=am.1.V (c:= .la g) (by rw[d _ _ l];exact FJ e L) dg;rw[d e z (show ap.la g≠ .ll g by simp)] at ad;have ao:∀k,k<h.G.N.q->C e bm z aW=e aW:=λk aC=>d _ _ l;have ay:∀k,k<h.G.A.q->C e bm z aX=e aX:=λk aC=>d _ _ l;have i:Z df ck=C (C aG bm de) eC (o dg):=by
  funext c
  cases c with
  |lc y=>rw[d _ _ l,d _ _ l];exact qB λn aE=>EA db ao ay
  |la y=>
   show E.p _ cl[y]?=_;rw[qc _ _ _ _ L];by_cases I:y=g
   ·clear t L am ad ao ay;subst I;rw[av rfl,S];rfl
   ·rw[au I,d _ _ an,d _ _ l];refine qB λn P=>?_;have:C e bm z cn=e cn:=d _ _ an;cases a:n.1<;>simp only [ru,this]
  |ll y=>
   show E.p _ cl[y]?=_;rw[qc _ _ _ _ L,d _ _ l];by_cases I:y=g
   ·clear t L am ad;subst I;rw[av rfl,S];show o _=o _;dsimp only;rw[Co aU ao ay]
   ·rw[au I,d _ _ an];exact qB λn aE=>by rw[Co dc ao ay]
  |ax=>rw[d _ _ l,d _ _ l];show o _=o _;rw[KJ B.kn ao ay]
  |_=>rw[d _ _ l,d _ _ l];rfl
 refine ez
 ·rw[i];exact ad.1
 ·rw[i];exact am.2.ag ad.2
theorem Gg aM co bC eD dd
  eB bS bB:
  W as l0 aF (b++[ru eE 0 f]) eF eG:=by
 have B:=J.aw;have aC:Z e h bn=none:=by show E.p _ _=_;rw[m.bt cg];rfl
 have am:=B.t.be J.st (c:= .ll h.G.A.q) cm aD aV bv;have ad:=am.1.new (c:= .la h.G.A.q) eH eI;have ao:∀k,k<h.G.N.q->C bT bn b.q aW=e aW:=λk aC=>by rw[d _ _ l,d _ _ l]
 have ay:∀k,k<h.G.A.q->C bT bn b.q aX=e aX:=λk aC=>by rw[d _ _ an,d _ _ l]
 have i:Z eF eG=C (C aG dh de) bn (o eI):=by
  funext c
  cases c with
  |lc y=>rw[d _ _ l,d _ _ l];exact qB λn aE=>EA db ao ay
  |la y=>
   show E.p _ eJ[y]?=_;rw[rt];by_cases I:y=h.G.A.q
   ·subst I;rw[av rfl,S];show o _=o _;have:C bT bn b.q dh=z:=by rw[d _ _ l,S]
    clear ad;cases f<;>simp only [ru,this]
   ·rw[au I,d _ _ an,d _ _ l];refine qB λn P=>?_;have:C bT bn b.q cn=e cn:=by rw[d _ _ l,d _ _ an]
    cases a:n.1<;>simp only [ru,this]
  |ll y=>
   show E.p _ eJ[y]?=_;rw[rt,d _ _ l];by_cases I:y=h.G.A.q
   ·subst I;rw[av rfl,S];show o _=o _;dsimp only;rw[Co aU ao ay]
   ·rw[au I,d _ _ an];exact qB λn aE=>by rw[Co dc ao ay]
  |ax=>rw[d _ _ l,d _ _ l];show o _=o _;rw[KJ B.kn ao ay]
  |_=>rw[d _ _ l,d _ _ l];rfl
 refine ⟨⟨?_,B.ok.lE aU,λv ai=>(B.kn v ai).le (h.G.Ci _)⟩,?_⟩
 ·rw[i];exact ad.1
 ·rw[i];exact am.2.ag ad.2
theorem af5 a6(k z:M):(m.aP eK).p (λg=>O.aa (C e (.mz k) z b4))=(m.aP k).p eL++cp:=by
 rw[m.dI,m.dF];congr 1
 ·refine m.bI λg t=>?_;have:=m.dH.mp t;rw[d _ _ an]
 ·simp [C]
theorem afg a6(k z H:M):(m.aP eK).p (λg=>O.aa (C (C e (.aA k) H) (.aN k) z b5))=(m.aP k).p eM++cp:=by
 rw[m.dI,m.dF];congr 1
 ·refine m.bI λg t=>?_;have:=m.dH.mp t;rw[d _ _ an,d _ _ l]
 ·simp [C]
theorem aml eN c4 co eO eP(v:Q):lv ce v=lv e v:=by
 cases v with
 |num g=>rfl
 |ba=>rfl
 |aJ k=>show O.aa _= .aa _;rw[d _ _ (a k).symm]
 |aI k=>show O.aa _= .aa _;rw[d _ _ (h' k).symm]
theorem F0 eN c4 co eO eP:lv ce=lv e:=funext (aml a h')
theorem apm aM co cf(aD:b[z]?=o cq) bS bB:
  W as l0 aF (b.V dV dj) dl eQ:=by
 have B:=J.aw;have aC:Z e h cr=none:=by show E.p _ _=_;rw[m.bt cg];rfl
 have am:=B.t.be J.st (c:= .mz h.K.N.q) eq aD aV bv;have ad:=am.1.V (c:= .N) (by rw[d _ _ l];rfl) dj;rw[d e z (show ap.N≠ .mz h.K.N.q by simp)] at ad;have qR:lv dl=lv e:=F0 l l;have i:Z dl eQ=C (C aG cr eR) .N (o dj):=by
  funext c
  cases c with
  |mz y=>
   show E.p _ (h.K.N++[aR])[y]?=_;rw[rt,d _ _ l];by_cases I:y=h.K.N.q
   ·subst I;rw[av rfl,S];rfl
   ·rw[au I,d _ _ an];rfl
  |N=>rw[S];show o (ko.ak ((m.aP (h.K.N++[aR]).q).p λg=>O.aa (C e cr z b4)))=_;rw[m.dD,m.dE,af5]
  |lc y=>rw[d _ _ l,d _ _ l];show E.p _ _=E.p _ _;unfold su;rw[qR]
  |ll y=>rw[d _ _ l,d _ _ l];show E.p _ _=E.p _ _;rw[qR]
  |ax=>rw[d _ _ l,d _ _ l];show o _=o _;rw[qR]
  |la y=>rw[d _ _ l,d _ _ l];exact qB λn P=>by cases a:n.1<;>rfl
  |_=>rw[d _ _ l,d _ _ l];rfl
 refine bo
 ·rw[i];exact ad.1
 ·rw[i];exact am.2.ag ad.2
theorem apl aM{z H:M} bC eD(dC:b[H]?=o bU)(amP:bd e h H)(amT:as.q<=H)
  (aD:b[z]?=o eS) bS bB(ne:z≠H):
  W as l0 aF (b.V dW dm) dq eT:=by
 have B:=J.aw;have aC:Z e h bV=none:=by show E.p _ _=_;rw[m.bt cg];rfl
 have cF:=B.t.be J.st (c:= .aA h.K.A.q) cm dC amP amT;have am:=cF.1.be cF.2 (c:= .aN h.K.A.q) eH aD (λq' x=>by
  by_cases i:q'= .aA h.K.A.q
  ·rw[i,S];exact ne.symm
  ·rw[d _ _ i] at x⊢;exact aV q' x) bv
 have ad:=am.1.V (c:= .A) (by rw[d _ _ l,d _ _ l];rfl) dm;rw[d _ z (show ap.A≠ .aN h.K.A.q by simp),d e H (show ap.A≠ .aA h.K.A.q by simp)] at ad;have qR:lv dq=lv e:=by rw[F0 l l,F0 l l]
 have i:Z dq eT=C (C (C aG dn dr) bV (o eS)) .A (o dm):=by
  funext c
  cases c with
  |aN y=>
   refine Eq.ag ?_ (d _ _ l).symm;show E.p _ eU[y]?=_;rw[rt];by_cases I:y=h.K.A.q
   ·subst I;rw[av rfl];refine Eq.ag ?_ (S _ _ _).symm;show o (ko.ak [.str cs,.aa (C dp bV z dn)])=_;rw[d _ _ l,S]
   ·rw[au I];refine Eq.ag ?_ (d _ _ an).symm;refine Eq.ag ?_ (d _ _ l).symm;refine qB λn P=>?_;rw[d _ _ l,d _ _ an]
  |aA y=>
   show E.p _ eU[y]?=_;rw[rt,d _ _ l,d _ _ l];by_cases I:y=h.K.A.q
   ·subst I;rw[av rfl,S];rfl
   ·rw[au I,d _ _ an];rfl
  |A=>rw[S];show o (ko.ak ((m.aP (h.K.A++[a2]).q).p λg=>O.aa (C dp bV z b5)))=_;rw[m.dD,m.dE,afg]
  |lc y=>rw[d _ _ l,d _ _ l,d _ _ l];show E.p _ _=E.p _ _;unfold su;rw[qR]
  |ll y=>rw[d _ _ l,d _ _ l,d _ _ l];show E.p _ _=E.p _ _;rw[qR]
  |ax=>rw[d _ _ l,d _ _ l,d _ _ l];show o _=o _;rw[qR]
  |la y=>rw[d _ _ l,d _ _ l,d _ _ l];exact qB λn P=>by cases a:n.1<;>rfl
  |_=>rw[d _ _ l,d _ _ l,d _ _ l];rfl
 refine bo
 ·rw[i];exact ad.1
 ·rw[i];exact am.2.ag ad.2
theorem L5 aM aQ(t:g<h.K.N.q) cf:
  W as l0 aF (b.V cW cq) e eW:=by
 have B:=J.aw;have a:=B.t.V (c:= .mz g) (by show (E.p _ _).ae=true;rw[bZ,m.cE t];rfl) cq;have i:Z e eW=C aG b4 eR:=by
  funext c
  cases c with
  |mz y=>
   show E.p _ (h.K.N.V g aR)[y]?=_;rw[qc _ _ _ _ t];by_cases I:y=g
   ·clear t a;subst I;rw[av rfl,S];rfl
   ·rw[au I,d _ _ an];rfl
  |N=>rw[d _ _ l];show o (ko.ak ((m.aP (h.K.N.V g aR).q).p _))=_;rw[m.b0];rfl
  |_=>rw[d _ _ l];rfl
 refine bo
 ·rw[i];exact a.1
 ·rw[i];exact J.st.ag a.2
theorem apo aM aQ bC ci eX:
  W as l0 aF (b.V dU bU) e cu:=by
 have B:=J.aw;have L:g<h.K.A.q:=(m.bF.mp t).1;have a:=B.t.V (c:= .aA g) ey bU;have i:Z e cu=C aG b3 dr:=by
  funext c
  cases c with
  |aN y=>
   rw[d _ _ l];show E.p _ cv[y]?=E.p _ _;rw[qc _ _ _ _ L];by_cases I:y=g
   ·clear L a;subst I;rw[av rfl,t];rfl
   ·rw[au I]
  |aA y=>
   show E.p _ cv[y]?=_;rw[qc _ _ _ _ L];by_cases I:y=g
   ·clear t L a;subst I;rw[av rfl,S];rfl
   ·rw[au I,d _ _ an];rfl
  |A=>rw[d _ _ l];show o eY=_;rw[m.b0];rfl
  |_=>rw[d _ _ l];rfl
 refine bo
 ·rw[i];exact a.1
 ·rw[i];exact J.st.ag a.2
theorem UU aM eA bC ci eX(aD:b[z]?=o bU) bS bB:
  W as l0 aF (b.V cX ds) dt cu:=by
 have B:=J.aw;have L:g<h.K.A.q:=(m.bF.mp t).1;have am:=B.t.be J.st (c:= .aA g) cm aD aV bv;have ad:=am.1.V (c:= .aN g) (by rw[d _ _ l];show (E.p _ _).ae=true;rw[t];rfl) ds;rw[d e z (show ap.aN g≠ .aA g by simp)] at ad;have qR:lv dt=lv e:=F0 l l;have i:Z dt cu=C (C aG b3 dr) b5 (o ds):=by
  funext c
  cases c with
  |aN y=>
   show E.p _ cv[y]?=_;rw[qc _ _ _ _ L];by_cases I:y=g
   ·clear t L am ad qR;subst I;rw[av rfl];refine Eq.ag ?_ (S _ _ _).symm;show o (ko.ak [.str cs,.aa (C e e0 z e0)])=_;rw[S]
   ·rw[au I];refine Eq.ag ?_ (d _ _ an).symm;refine Eq.ag ?_ (d _ _ l).symm;refine qB λn P=>?_;rw[d _ _ an]
  |aA y=>
   show E.p _ cv[y]?=_;rw[qc _ _ _ _ L,d _ _ l];by_cases I:y=g
   ·clear t L am ad qR;subst I;rw[av rfl,S];rfl
   ·rw[au I,d _ _ an];rfl
  |A=>rw[d _ _ l,d _ _ l];show o eY=_;rw[m.b0];rfl
  |lc y=>rw[d _ _ l,d _ _ l];show E.p _ _=E.p _ _;unfold su;rw[qR]
  |ll y=>rw[d _ _ l,d _ _ l];show E.p _ _=E.p _ _;rw[qR]
  |ax=>rw[d _ _ l,d _ _ l];show o _=o _;rw[qR]
  |la y=>rw[d _ _ l,d _ _ l];exact qB λn P=>by cases a:n.1<;>rfl
  |_=>rw[d _ _ l,d _ _ l];rfl
 refine bo
 ·rw[i];exact ad.1
 ·rw[i];exact am.2.ag ad.2
theorem apq aM b9(ai:jP h.G v):
  W as l0 aF (b.V dX du) e e1:=by
 have B:=J.aw;have a:=B.t.V (c:= .ax) cz du;have i:Z e e1=C aG .ax (o du):=by
  funext c
  cases c with
  |ax=>rw[S];rfl
  |_=>rw[d _ _ l];rfl
 refine ⟨⟨?_,B.ok,λu aU=>?_⟩,?_⟩
 ·rw[i];exact a.1
 ·rcases m.cL.mp aU with aU|aU
  ·exact B.kn u aU
  ·rw[m.cM.mp aU];exact ai
 ·rw[i];exact J.st.ag a.2
theorem UX aM(af:m Q):
  W as l0 aF (b.V dY dv) e e2:=by
 have B:=J.aw;have a:=B.t.V (c:= .a5) cz dv;have i:Z e e2=C aG .a5 (o dv):=by
  funext c
  cases c with
  |a5=>rw[S];rfl
  |_=>rw[d _ _ l];rfl
 refine bo
 ·rw[i];exact a.1
 ·rw[i];exact J.st.ag a.2
theorem apn aM(n:bq):
  W as l0 aF (b.V (e .mC) dw) e e3:=by
 have B:=J.aw;have a:=B.t.V (c:= .mC) cz dw;have i:Z e e3=C aG .mC (o dw):=by
  funext c
  cases c with
  |mC=>rw[S];rfl
  |_=>rw[d _ _ l];rfl
 refine bo
 ·rw[i];exact a.1
 ·rw[i];exact J.st.ag a.2
end
end
mutual
example _ σ h some Nat i ok a n b τ l List length e ad k x c Q trans u v w E W m I Res(A:aB a o w)jD bnd q V g p r j7[by kernel_rfl]obj σ' hi(a:jE)hl{a:jE}{h:d}bo{v:G}nil L M cs hv _ _ _ _ _ _ _ _ _ _ _ map s ac arr{e:d}[.M h]Chain list{k:l D}C t cells cell int known o inst set f «at» Bool j{ts:l G}congrArg look(b:a[h]?=c (.ah k))D Inv R hc(v:G)ha kindOf y{v:D}(Z:jP w.W v)[tv v]at_ hn[.M a.m]ρ' bool eqv h2 hp mpr fl hk[.M z][by rfl]Int T hj tup{F:au}Str out vec{Y:l d}{y:jU}{aZ:Tb}{g i:G}[lv o v][.ad e][.ah k]beq blt cons isinstance ret state{n:G}(g i:aY)[.an g][.an i][tv g][tv i][kY p kr]P bt fs glob hb(b:ag y v Y n){e:aY}[(g,i)][aG w.W v]«by»[.an 1][mO a _]NotEq absurd cont d hC inj isA le_trans lim not z{s:D->jE->Prop}{ab:a3}[match l_ a h with|c k=>_|none=>_]{ab ak:a3}[(by show c3.aa _ _=_;rw[b];rfl)][.ll e][v= .V][(.f v,a)][U8 v][.M (o .bh)](b6:H a)es' alloc decide_eq_false dict enc es getElem?_eq_some_iff hd hf hg hm hx key len length_append pool row{ap:ko}(f:oA y)[[lv o v]][.an e][g=i][h+2][[ap]](h:d)[(F,ts)][lv o][o .ao](bF:uR aj=true)[(by cases aG w.W v<;>rfl)][.am e][lv o ba][A.la b][.M cn]{α:Type}(b:k.m<=1000000)ble_eq bn chain da error h1 he lt_of_le_of_lt{r:au}{p:au->X aC}[.str ab][mF b][(sf,.none)](ap:ko)[(.f (),a)]{z h:d}(y:jU)(aj:d){q:a3}[Sp bx][lv o g][⟨rfl,rfl⟩][o bR](b:w.W.jH[e]?=c (true,ts))[.an 0][.an h](k:l G)[k.aa λv=>(tv v,as v)](q aH:D)[by decide]A Except Nodup Option Small add_right_comm blt_eq dl elim ex forL grow hu isEmpty isKey item_at le_of_eq ne_of_lt succ_pos(q:D)(Z:jP y v)[⟨[],_,.stop rfl⟩][match y.jH[e]? with|c (true,_)=>s6.str|_=> .a5][aG y v][[(rq,q),(vC,aH)]]«do»[[lv o g]](ab:a3)[[.str ab,v]][(p:aY)]{p:d}(O:e=ds){a N:jE}(I:a<+:N)[.ah (k++[v])]{e av:aY}[.a1 [.str ab,.an e]](b:j4 ab ak=false){r:d}(g i:G)[(true,_)][.lc e][.la e][.mz e][.cz e][.c7 e][(tv v,lv o v)][aqn A Z](aF:jP w.W g)[lv o i](b:w.W.al[e]?=c bw)[lv o cq][A.lc b](b:w.W.jH[e]?=c (false,ts))[.M (o (.mz h))][.M (o (.cz h))]{k:l α}[v∈k](as:G->D)(b:a[z]?=c bb)(h':a[h]?=c (.ah [])){p:au->X β}[d.le_refl _]{F r:au}(n:F=r)[n▸H]{p:D->X β}[[q,aH]][lG r i ρ][h+1][E d5 bo a][EV b6]DecidableEq be decide_eq_decide decide_eq_true getElem?_append_left getElem?_eq_getElem hD hq hr hs hy isSome length_map map_map mem_cons nodup_cons set_append_right zero_add zero_le[b1 q][E (ki H as (k.aa b1)) p a][.head _](b:j4 bU ab=r)(H:B (p r a) s x)[jT aK cU][CO a v][EJ a _ _](H:B (p (!r) a) s x)[S7 a _ _][ax bK b](b:j4 ab ak=r)[.str ak][jT q aH][(.f aN,a++[.ah k])][[(o8,q),(sf,aH)]](c0:sS y){I F:l d}[mK [] o8 q][[(o8,q),cI]][c ts][by simpa using aF](b:lB y v eL)[Rb b][[lv o ba,.bs aj]][nJ b][Kz A Z](b:(decide bS||v.mj)=false)[yw cf a][[.aq 38 dn]][[ko.aq 38 []]]{j:jE}{z g i r:d}(aD:r=g+1)[d.c5 i 1 g]{s x:D->jE->Prop}[.a1 [.M a.m,lv o n]][xm _ _ _](sm:c4 w.W)(aD:ag w.W v Y n)[.ah ((oq w.W Y).aa cm)][[.M h,lv o n]][AY cf a][a++cj](n:D)[bY bb][E e_ (λnY=>E (k9 38 uf [.str ab,nY]) λJ=>oN (α:=D) J) a][l8 _ _][a++[.ah dr]]{ap q:ko}[E (q4 dr) (λJ=>oN (α:=D) J) a](b:fits ap=true)(b:a[e]?=c q)[D×D]{e v:D}(b:a[h]?=c (.b0 b2))[JJ b](aV:k[p]?=c v)[O▸T7 (l.b3.mp aV).1](Q:k.m<=1000000)[pN b][K fo](b:a[e]?=c ap)[(.f v,j)](Q:k.m<1000000)[a.ar e ap][(K rfl).t ?_](g i:a3)[.str g][.str i][(.f (decide ch),a)][(.f (!decide ch),a)]{g i:D}(b:qn g i=c F)[c3.aa bK][.a1 [.str ak,.an av]][e=av][j4 ab ak&&false][aY.ofNat.bG b]{br:l (a3×D)}(b:w.W.jH[e]?=c cl)(b:w.aA.jH[e]?=c cl)[x6 F][o dG][o dH](b:a[h]?=c (.aq r br))[.b0 (w.ao.aa λv=>dJ)][o .al][o .jH][o .cb](aF:mT r q nO=true)[(.f aN,a++cj)][l.ed Z][⟨_,l.ed Z⟩][nH aj bx][.aP F][R9 A Z bF][[.bs aj,.bs aA]][P6 b](bt:jP w.W i)[FL o aF][FL o bt][ea.aT ⟨λb=>by clear bt aM;cases b;rfl,λb=>by clear bt aM;cases b;rfl⟩][d.bc _ _][FJ o bt][FJ o aF](o:kD)[(by show lk [(p6,_),(nj,_)] _=_;kernel_rfl)][(p6,lv o g)][(false,ts)][(.f (.M cS),a)][(true,ts)]{e z:d}[o dF][upd o bR z][upd o bR z bR][[(o8,D.M cS),cI]][(.f cg,a)][(.f cV,a)][.str vG][.M fP][.str wX][.M fQ][(by rw[l.getElem?_map,l.getElem?_range b];rfl)](b:w.aA.al[h]?=c bw)[A.mz b](b:w.aA.jH[h]?=c cl)[A.cz b][k.aa tv]{k:l G}(b:a[h]?=c (.ah gt))[(RY b).t (ajN a v k)][EL [] 2 g v][R7 v][(.f a_,a)][E z p a](H:B (p r N) s x){z:X D}(b:z a=c (.f fX,N))[p aN j](j:jE)[λζ ζ b=>b](p:jL->X aC)(kr:D->X aC)[[(p6,q),(nj,aH)]][c_ H i J ρ]{z:X α}{J:c1 D jI×jE}[arn cB n][jX n][λh=>(w h).t gO][show E _ _ a=_ from jX d8]{q:D}{J:l D}[q::J][E (E (vI H) _) _ a]el:True:=x
theorem Bv cd P ff:bY ap a=c fT:=by unfold bY;rw[b]
theorem Rb ai cv:fits bb=true:=d.cw.aT b
theorem oV P ai cv:bY bb a=c eF:=Bv a eO
theorem mO P cJ:e8[a.m]?=c ap:=by simp
theorem tL R fd ae fg:e8[e]?=c q:=by rw[l.ec (l.b3.mp b).1];exact b
theorem l8 P cJ:a<+:a++cj:=⟨cj,rfl⟩
theorem kZ dv dw ae cd fq:N[e]?=c ap:=by obtain ⟨j,rfl⟩:=I;rw[l.ec (l.b3.mp b).1];exact b
theorem v8 dv dw ae(b:a.m<=e) cJ:a<+:N.ar e ap:=by obtain ⟨j,rfl⟩:=I;rw[l.eo _ _ b];exact ⟨_,rfl⟩
theorem t9 dv dw:a.m<=N.m:=I.length_le
theorem oK R ae cd fq:e<a.m:=(l.b3.mp b).1
theorem qV R ae fd fg:ft[e]?=c ap:=l.getElem?_set_self (oK b)
theorem rS R{e av:d} cJ(b:e≠av):ft[av]?=a[av]?:=l.getElem?_set_ne b
theorem Eu cL(b:z≠h):d.bc z h=false:=by rw[<-au.not_eq_true,d.beq_eq];exact b
theorem rQ R S dB fH cO aI fN(Q:d.bd br.m 100=true) fS:
  lS af q v a=c (.f (),a.ar h (.aq r (mK br q v))):=
 Gp ((K rfl).t ((K f0).t (by show kX (d.bd br.m 100&&mT r q nO) _=_;rw[Q,aF];rfl)))
theorem rD R S dB fH cO aI fN fS(Q:lk br q=c v):kF af q a=c bT:=
 nS ((K rfl).t ((K f0).t (by show kX (mT r q nO) (lk br q)=_;rw[aF,Q];rfl)))
theorem Pg:mT 82 p6 nO=true:=L
theorem I3:mT 82 nj nO=true:=L
theorem En:mT 104 o8 nO=true:=L
theorem I7:mT 104 sf nO=true:=L
theorem I9:mT 125 oJ nO=true:=L
theorem z4 dB{z:l D->X D}{vs:l D} R cd(b:z (.M a.m::vs) (a++[.aq r []])=c (.f .none,a++cj)):k9 r z vs a=c fT:=by unfold k9 E;rw[Bv (ap:= .aq r []) a rfl];dsimp only;rw[b];rfl
theorem ua P(g i:ko):(a++[g]).ar a.m i=a++[i]:=by rw[l.eo _ _ dZ];simp
theorem amb P cY:k9 82 yj d4 a=c (.f aN,a++[.aq 82 gJ]):=by
 refine z4 ?_;rw[aav];unfold E;rw[rQ bA aX Pg,ua];dsimp only;rw[rQ bA aX I3,ua];have:mK (mK [] p6 q) nj aH=gJ:=L
 rw[this];rfl
theorem K8 P di:k9 125 sU [q] a=c (.f aN,a++[.aq 125 [(oJ,q)]]):=by refine z4 ?_;rw[aaA];unfold E;rw[rQ bA aX I9,ua];rfl
theorem amc P cY:k9 104 ug d4 a=c (.f aN,a++[.aq 104 eG]):=by
 refine z4 ?_;rw[GO];unfold E;rw[rQ bA aX En,ua];dsimp only;rw[rQ bA aX I7,ua];have:mK eJ sf aH=eG:=L
 rw[this];rfl
theorem Th P di:k9 104 ug [q] a=c (.f aN,a++[.aq 104 eK]):=by
 refine z4 ?_;rw[aaz,<-GO];rw[GO];unfold E;rw[rQ bA aX En,ua];dsimp only;rw[rQ bA aX I7,ua];have:mK eJ sf D.none=eK:=L
 rw[this];rfl
theorem Tf P cY:k9 38 uf d4 a=c (.f aN,a++eU):=by refine z4 ?_;show (match (a++eV)[a.m]? with|c (ko.aq 38 [])=>c (c1.f D.none,(a++eV).ar a.m (ko.aq 38 dn))|_=>none)=_;rw[mO,ua];rfl
theorem Ul P cY:oN (α:=D) aN (a++eU)=c (.cA aN,a++[.aq 39 dn]):=by unfold oN;dsimp only;rw[mO];dsimp only;rw[ua]
noncomputable def yM dq e9 P:Prop:=∃h bE,n= .M h/\a[h]?=c (.aq 39 [(rq,.str ab),(vC,bE)])
theorem aoO R bM bN ai cv:B fa s (λn N=>yM ab n N/\a<+:N):=by refine T (oV a b) ?_;refine T (Tf _ _ _) ?_;rw[Ul];exact ⟨⟨_,_,rfl,mO _ _⟩,(l8 _ _).t fb⟩
theorem ary P dq(v:D):q4 dr a=c (.f (.M (a.m+1)),fc++[.aq 38 [(rq,.str wJ),(vC,.M a.m)]]):=by rw[abi];unfold E;rw[oV a (by simp)];dsimp only;rw[Tf,l.ca];rfl
theorem arz R bM bN aI:B fe s (λn N=>yM wJ n N/\a<+:N):=by refine T (ary a ab v) ?_;have:=Ul fc (.str wJ) aN;rw[l.ca] at this;rw[show a.m+1=a.m+[ko.ah [D.str ab,v]].m from rfl,this];exact ⟨⟨_,_,rfl,by rw[<-l.ca];exact mO _ _⟩,(l8 _ _).t fb⟩
theorem T7{p h:d}(b:p<h):place ds h=c p:=by show (match d.bd p h with|true=>c p|false=>none)=_;rw[show d.bd p h=true from d.c6.aT b]
theorem de R{h I:d} ai bv aI az(aS:place e k.m=c I)(aV:k[I]?=c v):jT af cg a=c bT:=
 nS ((K rfl).t (by show bO=_;rw[pN b];exact (K rfl).t ((K aS).t aV)))
theorem xF R S{b2:l fh} fi fj(n:kX (dd e||Fe e) (ob (pL b2 e) λap=>ap)=c v):jT af e a=c bT:=
 nS ((K rfl).t (by show bO=_;rw[FO b];exact (K fk).t n))
theorem nI R S ai bv dt aI az fl du:jT af cg a=c bT:=
 de b fm aV
theorem item_last R S ai aI az(aV:k.getLast?=c v):jT af (.an (-1)) a=c bT:=by
 have Q:0<k.m:=by cases k with
  |V=>cases aV
  |be g J=>exact d.dh _
 refine de (I:=k.m -1) b ?_ (l.getLast?_eq_getElem?▸aV);show (match d.bd 0 k.m with|true=>c (k.m -(0+1))|false=>none)=_;rw[show d.bd 0 k.m=true from d.c6.aT Q]
theorem KD R ai bv dt aI fn fl du:jT (.a1 k) cg a=c bT:=
 nS ((K rfl).t (by show kX (d.ble k.m bJ) _=_;rw[show d.ble k.m bJ=true from d.cw.aT Q];exact (K fm).t aV))
theorem mE R S ai az:j8 .b_ [.M h] a=c (.f (.an k.m),a):=
 (nS fp:ay (λa=>ob (l_ a h) λk=>c (D.an k.m)) a=_)
theorem Cj R S ai az fn:j8 .ah [.M h] a=c eF:=by unfold j8;dsimp only;exact (zd ((K rfl).t ((K rfl).t (alA b)))).t (oV a Q)
theorem Jl R S ai az:ry af a=c (.f k,a):=nS fo
theorem nX R S ai az:m9 af a=c (.f ⟨k,λa=>a[h]?=c bb⟩,a):=
 nS fp
theorem Uz:j4 lJ lJ=true:=L
theorem UA:j4 m6 lJ=false:=L
theorem UB:j4 m6 m6=true:=L
theorem UC:j4 pB lJ=false:=L
theorem UD:j4 pB m6=false:=L
theorem UE:j4 pB pB=true:=L
theorem KW{a j:jE} S{k vs:l D} aI a8 cO az(n:vS q k vs h a=c (v,j)):lQ aZ af q vs a=c fr:=
 (zd (z:=upd' (vS q k vs h)) ((K rfl).t (by show bO=_;rw[pN b]))).t (Gp n)
theorem KX R S ai a8 cO az(n:(j4 q lJ||(j4 q m6||j4 q pB))=true):mG aZ af q a=c cK:=
 nS ((K rfl).t (by show bO=_;rw[pN b,n];rfl))
theorem yV R S ai aI a8 az fs:lQ aZ af lJ [v] a=c (.f .none,a.ar h dx):=
 KW b (by unfold vS;rw[Uz];show kX (d.bd k.m bJ) _=_;rw[show d.bd k.m bJ=true from d.c6.aT Q];rfl)
theorem BO R{h z:d}{k J:l D} a8 az(eg:a[z]?=c (.ah J))(ne:z≠h)(Q:k.m+J.m<=1000000):lQ aZ af m6 [.M z] a=c (.f .none,a.ar h (.ah (k++J))):=
 KW b (by unfold vS;rw[UA,UB];refine (K rfl).t ((K rfl).t ((K (pN eg)).t ?_));rw[Eu ne,show d.ble (k.m+J.m) bJ=true from d.cw.aT Q];rfl)
theorem Lw R S ai aI a8(b:a[h]?=c dx):lQ aZ af pB [] a=c (.f v,a.ar h bb):=
 KW b (by unfold vS;rw[UC,UD,UE];refine (K (l.getLast?_concat ..)).t ?_;rw[l.dropLast_concat])
theorem v7 R S ai a8 az:mG aZ af lJ a=c cK:=KX b (by rw[Uz];rfl)
theorem Cz R S ai a8 az:mG aZ af m6 a=c cK:=KX b (by rw[UA,UB];rfl)
theorem Ly R S ai a8 az:mG aZ af pB a=c cK:=KX b (by rw[UC,UD,UE];rfl)
theorem wc R S ai dt aI az(aV:p<k.m) bv du:pn af cg v a=c (.f (),a.ar h (.ah (k.ar p v))):=by subst O;refine Gp fu;show bO=_;rw[pN b];refine (K rfl).t ?_;rw[show decide (0<=ds)=true from eb (aY.natCast_nonneg p)];exact K (T7 aV)
theorem aoy R S{b2 bX:l fh} fi fj(O:dd e=true)(aS:putK b2 e v=c bX)(Q:bX.m<=1000000):pn af e v a=c (.f (),a.ar h (.b0 bX)):=by refine Gp fu;show bO=_;rw[FO b];refine (K fk).t ?_;rw[O];refine (K aS).t ?_;rw[show d.ble bX.m bJ=true from d.cw.aT Q];rfl
theorem EJ P fv:jN .Eq fw fx a=c (.f (j4 g i),a):=rfl
theorem S7 P fv:jN .bB fw fx a=c (.f (!j4 g i),a):=rfl
theorem xm P bj:jN .Eq bk bl a=c fy:=rfl
theorem K4 P bj:jN .bB bk bl a=c fz:=rfl
theorem Cm P bj:jN .Lt bk bl a=c (.f (decide (g<i)),a):=rfl
theorem Cg P bj:jN .LtE bk bl a=c (.f (decide (g<=i)),a):=rfl
theorem EU P bj:jN .Gt bk bl a=c (.f (decide (i<g)),a):=rfl
theorem aiL P bj:jN .GtE bk bl a=c (.f (decide (i<=g)),a):=rfl
theorem yU P bj:kh .Add bk bl a=c (.f (.an (g+i)),a):=rfl
theorem Ak P bj:kh .Sub bk bl a=c (.f (.an (g -i)),a):=rfl
theorem xD fA a2 fB P:jN .Is g i a=c (.f F,a):=(nS b:ay (λζ=>qn g i) a=_)
theorem Ca fA a2 fB P:jN .IsNot g i a=c (.f (!F),a):=(nS (ax fC b):ay (λζ=>(qn g i).aa bK) a=_)
theorem EI R S bP dy a2(b:j4 ab ak=F):aQ a ci dz fD=c (F&&(decide fE&&true)):=b▸rfl
theorem zh R S bP dy dA:aQ a ci dz fD=c false:=EI b
theorem JR R S bP bv dA:aQ a ci dz (.a1 [.str ak])=c false:=by show c fF=_;rw[b];rfl
theorem JQ R S bP bv dA:aQ a ci (.a1 [.str ab]) (.a1 [.str ak,.an e])=c false:=by show c fF=_;rw[b];rfl
theorem Lc dy a9(b:g=i↔e=av):c (true&&(decide fE&&true))=c (decide ch):=by rw[ea.aT b,au.true_and,au.and_true]
theorem EL P ck dC:aQ a ci bm bn=c (decide ch):=by
 cases g with
 |num e=>cases i with
  |num av=>exact (EI L).t (Lc ⟨G.num.bG,ax _⟩)
  |V=>exact JR L
  |am z=>exact zh L
  |ad z=>exact zh L
 |V=>cases i with
  |num av=>exact JQ L
  |V=>exact (show c (j4 wK wK&&true)=c true by kernel_rfl)
  |am z=>exact JQ L
  |ad z=>exact JQ L
 |am e=>cases i with
  |num av=>exact zh L
  |V=>exact JR L
  |am z=>exact (EI L).t (Lc ⟨λb=>ax _ (G.am.bG b),λb=>ax _ fG⟩)
  |ad z=>exact zh L
 |ad e=>cases i with
  |num av=>exact zh L
  |V=>exact JR L
  |am z=>exact zh L
  |ad z=>exact (EI L).t (Lc ⟨λb=>ax _ (G.ad.bG b),λb=>ax _ fG⟩)
inductive s6 where
 |num|V|am|a5|str
 deriving d9
noncomputable def aG cM:G->s6
 | .num _=> .num
 | .V=> .V
 | .am _=> .am
 | .ad e=>match y.jH[e]? with
  |c dD=> .str
  |_=> .a5
noncomputable def nH cN:s6->au
 | .am=>d.bc 82 aj
 | .a5=>d.bc 125 aj
 | .str=>d.bc 104 aj
 |_=>false
mutual
section
variable {a:jE}{o:kD}{w:kG}
theorem aB.lc C ae{I:G×G}(b:w.W.al[e]?=c I):a[o dE]?=c (su o I):=A.O.aL dE _ bQ
theorem aB.la C ae a2 aw fI:a[o dF]?=c (ru o e F):=A.O.aL dF _ bQ
theorem aB.ll C ae a2 aw fI:a[o bR]?=c (.ah (ts.aa cm)):=A.O.aL bR _ bQ
theorem aB.mz C ae a9(b:w.aA.al[e]?=c bw):a[o dG]?=c (.ah [tv g,tv i]):=A.O.aL dG _ bQ
theorem aB.cz C ae a2 aw fJ:a[o dH]?=c (.ah [.str fK,.M (o dI)]):=A.O.aL dH _ bQ
theorem aB.c7 C ae a2 aw fJ:a[o dI]?=c (.ah (ts.aa tv)):=A.O.aL dI _ bQ
theorem aB.al C:a[o .al]?=c (.ah ((l.range w.aA.al.m).aa λe=> .M fL)):=A.O.aL .al _ rfl
theorem aB.jH C:a[o .jH]?=c (.ah ((l.range w.aA.jH.m).aa λe=> .M fM)):=A.O.aL .jH _ rfl
theorem aB.ao C:a[o .ao]?=c fO:=A.O.aL .ao _ rfl
theorem aB.cb C:a[o .cb]?=c (.ah (w.cb.aa tv)):=A.O.aL .cb _ rfl
theorem aB.bh C:a[o .bh]?=c (.b0 [(.str vG,.M fP),(.str wX,.M fQ),(.str Bo,.M cn),(.str wQ,.M fR)]):=A.O.aL .bh _ rfl
theorem aB.mC C:a[o .mC]?=c (.ah [.M (o .cc),.an w.pos]):=A.O.aL .mC _ rfl
theorem aB.cc C:a[o .cc]?=c (.ah (w.cc.aa .an)):=A.O.aL .cc _ rfl
noncomputable def Sp:s6->d
 | .num=>2
 | .V=>58
 | .am=>82
 | .a5=>125
 | .str=>104
theorem aqn C U aJ:sM a a_=c cP:=by
 cases v with
 |num e=>rfl
 |V=>rfl
 |am h=>show CS a[o (.lc h)]?=_;rw[A.lc fU];rfl
 |ad h=>obtain ⟨⟨F,ts⟩,aS⟩:∃I,w.W.jH[h]?=c I:=fV;show CS a[o (.la h)]?=c (Sp (match w.W.jH[h]? with|c dD=> .str|_=> .a5));rw[A.la aS,aS];clear aS;cases F<;>rfl
theorem R9 C U aJ{aj:d} co:Fc a a_ (.bs aj)=c fW:=by refine (K dK).t ((K (show kX (uR aj) (c aj)=c aj by rw[bF];rfl)).t (ax c ?_));exact E9 (bp:=λaj=>sD cP aj=nH aj bx) bF cp cp cp cp cp
theorem Fi{v r:D} a2(b:B7 a v r=c F):j8 .bf [v,r] a=c (.f fX,a):=by show ay (λa=>(B7 a v r).aa D.aP) a=_;unfold ay;dsimp only;rw[b];rfl
theorem qy C U aJ cN co:j8 .bf [lv o v,.bs aj] a=c (.f (.aP fW),a):=
 Fi fY
theorem Sf C U aJ(aj aA:d) co(ee:uR aA=true):j8 .bf [lv o v,.a1 fZ] a=c (.f (.aP (nH aj bx||nH aA bx)),a):=by
 refine Fi (show isAny a a_ fZ=_ from (K fY).t ?_);cases nH aj bx with
 |true=>rfl
 |false=>exact (K (R9 A Z ee)).t (by cases nH aA bx<;>rfl)
theorem Se C U aJ:j8 .bf [lv o v,.cx .an] a=c (.f (.aP (decide (aG w.W v= .num))),a):=
 Fi ((K dK).t (show c (sD cP 2)=_ by cases aG w.W v<;>rfl))
theorem Sd C U aJ:j8 .bf [lv o v,.cx .aP] a=c (.f (.aP false),a):=
 Fi ((K dK).t (show c (sD cP 1)=_ by cases aG w.W v<;>rfl))
theorem zM C a9 dL f1(aM:¬(aG w.W g= .num/\aG w.W i= .num)):qn cQ dM=c (decide ch):=by
 have b9:∀J r':Role,(bD o w J).ej=true->(bD o w r').ej=true->d.bc (o J) (o r')=decide (J=r'):=by
  intro J r' b h';by_cases n:J=r'
  ·clear h';subst n;simp
  ·rw[bZ n];exact Eu λF=>n (A.O.bG J r' b h' F)
 cases g with
 |num e=>cases i with
  |num av=>exact bC cR aM
  |V=>rfl
  |am z=>rfl
  |ad z=>rfl
 |V=>clear bt aM;cases i<;>rfl
 |am h=>cases i with
  |num av=>rfl
  |V=>rfl
  |am z=>exact ax c ((b9 _ _ f2 f3).t f4)
  |ad z=>show c f5=_;rw[b9 _ _ f2 f6];simp
 |ad h=>cases i with
  |num av=>rfl
  |V=>rfl
  |am z=>show c f5=_;rw[b9 _ _ f7 f3];simp
  |ad z=>exact ax c ((b9 _ _ f7 f6).t f4)
theorem B9 aE f8:qn a_ (.bs 64)=c (decide bS):=by cases v<;>rfl
theorem is_none aE f8:qn a_ .none=c false:=by cases v<;>rfl
theorem xr C ae a9 dN:kF dO p6 a=c (.f cQ,a):=
 rD dP Pg f9
theorem rE C ae a9 dN:kF dO nj a=c (.f dM,a):=
 rD dP I3 f9
theorem LS C ae a9 dN aE:lS dO nj a_ a=c (.f (),a.ar (o dE) (su o (g,v))):=by
 refine (rQ dP aX I3).t ?_;have:mK [f_,(nj,lv o i)] nj a_=[f_,(nj,lv o v)]:=L
 rw[this];rfl
theorem xu C ae aw dQ:kF cr oJ a=c gb:=
 rD cs I9 L
theorem BQ C ae aw cT:kF cr o8 a=c gb:=
 rD cs En L
theorem aiT C ae aw cT:kF cr sf a=c (.f .none,a):=
 rD cs I7 L
theorem UI C gd aw dQ:lS cr oJ aW a=c (.f (),a.ar ge (ru gf e false)):=by
 refine (rQ cs aX I9).t ?_;have:mK [(oJ,D.M cS)] oJ aW=[(oJ,.M z)]:=L
 show c (_,a.ar _ (ko.aq 125 (mK [(oJ,D.M cS)] oJ aW)))=_;rw[this];show _=c (_,a.ar _ (ko.aq 125 [(oJ,.M gg)]));rw[lF]
theorem aoD C gd aw cT:lS cr o8 aW a=c (.f (),a.ar ge (ru gf e true)):=by
 refine (rQ cs aX En).t ?_;have:mK gh o8 aW=[(o8,.M z),cI]:=L
 show c (_,a.ar _ (ko.aq 104 (mK gh o8 aW)))=_;rw[this];show _=c (_,a.ar _ (ko.aq 104 [(o8,.M gg),cI]));rw[lF]
noncomputable def U8:G->a3
 | .num _=>yQ
 | .V=>wK
 | .am _=>vE
 | .ad _=>Bm
theorem CO P aE:jT aK cU a=c (.f (.str bU),a):=by cases v<;>rfl
theorem Mf P(e:aY):jT (tv (.num e)) bz a=c gi:=rfl
theorem Gh P ck:jT (tv (.am h)) bz a=c gj:=rfl
theorem U7 P ck:jT (tv (.ad h)) bz a=c gj:=rfl
noncomputable def G.mj:G->au
 | .am _=>true
 |_=>false
noncomputable def G.bH:G->au
 | .ad _=>true
 |_=>false
noncomputable def G.p_:G->au
 | .num _=>true
 |_=>false
theorem sL aE:j4 bU vE=v.mj:=by cases v<;>kernel_rfl
theorem rU aE:j4 bU Bm=v.bH:=by cases v<;>kernel_rfl
theorem CP aE:j4 bU yQ=v.p_:=by cases v<;>kernel_rfl
theorem U9 aE:j4 bU wK=decide bS:=by cases v<;>kernel_rfl
theorem QO P dC:jN .Eq bm bn a=c fy:=by show ay (λa=>aQ a 4 bm bn) a=_;unfold ay;dsimp only;rw[show aQ a 4 bm bn=_ from EL a 2 g i]
theorem S8 P dC:jN .bB bm bn a=c fz:=by show ay (λa=>(aQ a 4 bm bn).aa bK) a=_;unfold ay;dsimp only;rw[show aQ a 4 bm bn=_ from EL a 2 g i];rfl
theorem uc C:jT bV gk a=c (.f gl,a):=xF A.bh L
theorem CK C:jT bV gm a=c (.f gn,a):=xF A.bh L
theorem CL C:jT bV (.str Bo) a=c (.f ct,a):=xF A.bh L
theorem L3 C:jT bV (.str wQ) a=c (.f (.M fR),a):=xF A.bh L
theorem uH C S(b:h<w.aA.al.m):jT gl cV a=c (.f dR,a):=
 nI (p:=h) A.al go rfl
theorem PA C S(b:h<w.aA.jH.m):jT gn cV a=c (.f dS,a):=
 nI (p:=h) A.jH go rfl
theorem w9 C S a9 gp:jT dR cU a=c (.f bm,a):=nI (p:=0) gq rfl rfl
theorem BH C S a9 gp:jT dR bz a=c (.f bn,a):=nI (p:=1) gq rfl rfl
theorem Bw C S a2 aw gr:jT dS cU a=c (.f (.str fK),a):=nI (p:=0) gs rfl rfl
theorem Ep C S a2 aw gr:jT dS bz a=c (.f (.M (o (.c7 h))),a):=nI (p:=1) gs rfl rfl
theorem nJ cu dT ae{q:α}(b:k[e]?=c q):e<k.m:=(l.b3.mp b).1
theorem ajN P aE cW:uP a aK gt=c (decide dU):=by
 induction k with
 |V=>rfl
 |be g J ih=>
  refine (K (EL a 2 g v)).t ((K ih).t ?_);by_cases b:g=v
  ·clear ih;subst b;simp
  ·simp [b,Ne.symm b]
theorem RZ S gu gv aE:jN .In aK af a=c (.f (decide dU),a):=
 (nS gw:ay (λa=>tO a aK h) a=_)
theorem amf S gu gv aE:jN .NotIn aK af a=c (.f (!decide dU),a):=
 (nS (ax fC gw):ay (λa=>(tO a aK h).aa bK) a=_)
theorem R7 aE:dd aK=true:=by cases v<;>rfl
theorem Q9 dV aE cW:pL cX aK=c (if v∈k then c (as v) else none):=by
 induction k with
 |V=>rfl
 |be g J ih=>
  refine (K gx).t ?_;by_cases b:g=v
  ·clear ih;subst b;simp
  ·rw[bZ b];exact ih.t (by simp [Ne.symm b])
theorem ank dV aE di cW(b:v∉k):putK cX aK q=c (cX++[(tv v,q)]):=by
 induction k with
 |V=>rfl
 |be g J ih=>rw[l.em,not_or] at b;refine (K gx).t ?_;rw[bZ (Ne.symm b.1)];exact K (ih b.2)
theorem ajQ C aE:jN .In aK ct a=c (.f (decide (v∈w.ao)),a):=
 (nS ((ajP A.ao gy (Q9 _ v _)).t (ax c (by by_cases b:v∈w.ao<;>simp [b]))):ay (λa=>tO a aK cn) a=_)
theorem J5 C U(b:v∈w.ao):jT ct aK a=c gz:=
 xF A.ao (by rw[R7];exact K (by rw[Q9,if_pos b]))
theorem aoF C U(b:v∉w.ao)(Q:w.ao.m<1000000):pn ct aK a_ a=c (.f (),a.ar cn (.b0 ((w.ao++[v]).aa λv=>dJ))):=
 (aoy A.ao gy (ank _ _ _ _ b) (by rw[l.ca,l.ek];exact Q)).t (by rw[l.map_append];rfl)
theorem To dV cW:tT cX=true:=by
 cases k with
 |V=>rfl
 |be g J=>cases g<;>rfl
theorem alm C(Q:w.ao.m<=1000000):j8 .ah [.M cn] a=c (.f aN,a++[.ah (w.ao.aa tv)]):=by unfold j8;dsimp only;refine (zd ((K rfl).t ((K rfl).t (alz A.ao (To _ _))))).t ?_;rw[l.el];exact oV a (by simpa using Q)
theorem aqS C:Gs ct a=c (.f ⟨w.ao.aa cm,λN=>N[o .ao]?=c fO⟩,a):=by refine nS ((K rfl).t ((K (JJ A.ao)).t ?_));rw[To];show c (It.mk ((w.ao.aa λv=>dJ).aa (·.2)) _)=_;rw[l.el];rfl
theorem QY cL ai dW dX:aQ a 4 aW af=c (k.dc):=by rw[JT b h'];clear b;cases k<;>rfl
theorem FW cL ai dW dX:jN .bB aW af a=c (.f (!k.dc),a):=by show ay (λa=>(aQ a 4 aW af).aa bK) a=_;unfold ay;dsimp only;rw[QY b h'];rfl
theorem eq_empty cL ai dW dX:jN .Eq aW af a=c (.f k.dc,a):=by show ay (λa=>aQ a 4 aW af) a=_;unfold ay;dsimp only;rw[QY b h']
end
mutual
section
variable {α β:Type}{z:X α}{p:α->X β}{a N:jE}{s:β->jE->Prop}{x:D->jE->Prop}
theorem jX{g:α}(b:z a=c (.f g,N)):E z p a=p g N:=by unfold E;rw[b]
theorem mu(b:B (z a) (λg j=>B (p g j) s x) x):B gA s x:=lU b (λζ ζ F=>F) λζ ζ F=>F
theorem bq{z:X au} dY d0(b:z a=c (.f F,N)) d1 gB:B gA s x:=T b d2
theorem ly gC dY d0 gD d1 gB:B (E z (λJ=>jY J p) a) s x:=T b d2
theorem p7 gC dY d0 gD d1(H:B (p (!r) N) s x):B (E z (λJ=>k6 .Not J λJ=>jY J p) a) s x:=T b d2
theorem cx cd d3 ff(H:∀j,a<+:j->j[a.m]?=c ap->B gE s x):B (E (bY ap) p a) s x:=
 T (Bv a b) (H _ (l8 a ap) (mO a ap))
theorem kL ai d3 cv(H:∀j,a<+:j->j[a.m]?=c bb->B gE s x):B (E e_ p a) s x:=cx eO H
theorem Jp a8 S ai aI d3{k8:jE} az fs(old:k8.m<=h)(pr:k8<+:a)(H:∀j,k8<+:j->j[h]?=c dx->B (p .none j) s x):
  B (E (lQ aZ af lJ [v]) p a) s x:=T (yV b Q) (H _ (v8 pr old _) (qV b))
noncomputable def oO P dq e9 gF:Prop:=yM ab n j/\a<+:j
noncomputable abbrev lq:a3:=wJ
noncomputable abbrev nC:a3:=O5
noncomputable abbrev Ej P:D->jE->Prop:=oO a lq
theorem yd bN aI bM(H:∀n j,oO a lq n j->x n j):B fe s x:=(arz (s:=s)).mono gG H
theorem LX bN ai bM cv(H:∀n j,oO a ab n j->x n j):B fa s x:=(aoO (s:=s) b).mono gG H
end
mutual
section
variable {aC:Type}{p:jL->X aC}{kr:D->X aC}{ρ aO:jL}{a N j:jE}{s:aC->jE->Prop}{x:D->jE->Prop}
noncomputable def Rf(r:jL->X au)(i:jL->X jI) gH gI:jI->X aC
 | .bg v=>kr v
 | .next ρ=>E d5 bo
 | .bD ρ=>E d5 bo
noncomputable def Rd(H:jE->Prop)(i:D->jL->X jI)(J:l D) gH gI:jI->X aC
 | .bg v=>kr v
 | .next ρ=>E gK bo
 | .bD ρ=>E gK bo
theorem an3 cu gL{as:α->X aC}(b:B (E z as a) s x):(∃g j,z a=c (.f g,j)/\B (as g j) s x)\/∃n j,z a=c (.cA n,j)/\x n j:=by
 unfold E at b;cases n:z a with
 |none=>rw[n] at b;exact b.c8
 |c I=>
  obtain ⟨I,j⟩:=I;cases I with
  |cA q=>rw[n] at b;exact .inr ⟨q,j,rfl,b⟩
  |f g=>rw[n] at b;exact .inl ⟨g,j,rfl,b⟩
mutual
section
variable {r:jL->X au}{i:jL->X jI}
theorem arp gM(b:lG r i ρ a=c J):∃h,lZ r i h ρ a=c J:=by
 unfold lG at b
 split at b
 ·exact ⟨_,b⟩
 ·cases b
theorem arn gM(b:lG r i aO j=c J)(n:∀h,lZ r i d6 ρ a=lZ r i h aO j):lG r i ρ a=c J:=
 (arp b).c8 λh bE=>C0 ((n h).t bE)
theorem pT(b:r ρ a=c (.f false,N))(H:B (p ρ N) s x):B d7 s x:=
 T (g:= .next ρ) (N:=N) (C0 (h:=1) (by show E _ _ a=_;exact jX b)) H
theorem qJ(b:r ρ a=c (.f true,N))(H:B (i ρ N) (λaU j=>B (Rf r i p kr aU j) s x) x):B d7 s x:=by
 have w:∀h,lZ r i d6 ρ a=E (i ρ) (λaU=>match aU with| .bg v=>bg (.bg v)| .next aO=>lZ r i h aO| .bD aO=>lZ r i h aO) N:=λh=>by show E _ _ a=_;exact jX b
 have on:∀{aO j},(∀h,lZ r i d6 ρ a=lZ r i h aO j)->B (E (lG r i aO) bo j) s x->B d7 s x:=λn H=>by
  rcases an3 H with ⟨aU,k8,cB,aR⟩|⟨q,k8,cB,aR⟩
  ·exact T gN aR
  ·exact d_ gN aR
 cases n:i ρ N with
 |none=>rw[n] at H;exact H.c8
 |c I=>
  obtain ⟨I,j⟩:=I;rw[n] at H;cases I with
  |cA q=>exact d_ (C0 (h:=1) ((w 0).t (by unfold E;rw[n]))) H
  |f aU=>
   cases aU with
   |bg v=>exact T (g:= .bg v) (N:=j) (C0 (h:=1) ((w 0).t gO)) H
   |next aO=>exact on gP H
   |bD aO=>exact on gP H
end
mutual
section
variable {H:jE->Prop}{i:D->jL->X jI}
theorem BC{α β γ:Type} gL{as:α->X β}{b:β->X γ}:E (E z as) b=E z λg=>E (as g) b:=by
 funext a
 unfold E;cases z a with
 |none=>rfl
 |c I=>obtain ⟨I,j⟩:=I;cases I<;>rfl
theorem tH bW(b:B (p ρ a) s x):B (E (c_ H i [] ρ) bo a) s x:=T gQ b
theorem tG gR gS bW(b:B (i q ρ a) (λaU j=>B (Rd H i J p kr aU j) s x) x):B (E (c_ H i gT ρ) bo a) s x:=by show B gU s x;rw[BC];refine T d8 ?_;rw[BC];refine lU b (λaU j F=>?_) λζ ζ F=>F;cases aU<;>exact F
end
mutual
section
variable {H:jE->Prop}{as:D->X (l D)}{p:l D->X aC}
theorem sA bW(b:B (p [] a) s x):B (E (ki H as []) p a) s x:=T gQ b
theorem sy gR gS bW(b:B (as q a) (λv j=>B (E (ki H as J) (λak=>p (v++ak)) j) s x) λζ ζ=>False):B (E (ki H as gT) p a) s x:=by show B gU s x;rw[BC];refine T d8 ?_;obtain ⟨v,j,n,b⟩:=b.some_of;rw[BC,jX (show quiet (as q) a=c fr by unfold quiet;rw[n]),BC];exact b
theorem P9 cu{b1:α->D}{a4:α->l D} bW:∀(k:l α) {p:l D->X aC},(∀q∈k,as er a=c (.f (a4 q),a))->B (p (k.flatMap a4) a) s x->B es s x:=by
 intro k;induction k with
 |V=>exact λζ b=>sA b6 b
 |be q k ih=>intro p b5 b;refine sy (J:=k.aa b1) b6 ?_;rw[b5 q et];exact ih (p:=λak=>p (a4 q++ak)) (λaH ei=>b5 aH (.tail _ ei)) (l.flatMap_cons▸b)
theorem w_ cu{b1 a4:α->D} bW dT(b5:∀q∈k,as er a=c (.f [a4 q],a))(b:B (p (k.aa a4) a) s x):B es s x:=
 P9 (a4:=λq=>[a4 q]) b6 k b5 (l.map_eq_flatMap▸b)
end
end
mutual
section
variable {a:jE}{o:kD}{w:kG}{aC:Type}{p:D->X aC}{s:aC->jE->Prop}{x:D->jE->Prop}{v:G}
theorem nT bN cE cF eu ev:B (E ew (λq=>E (jN .Eq q cG) p) a) s x:=T ex (bq ey b H)
theorem x8 bN cE cF eu ez:B (E ew (λq=>E (jN .bB q cG) p) a) s x:=T ex (bq eA eB H)
theorem u9 bP cE cF eC ev:B (E (jN .Eq cG eD) p a) s x:=bq ey b H
theorem Ai bP cE cF eC ez:B (E (jN .bB cG eD) p a) s x:=bq eA eB H
theorem t_ C ae(O:e<w.aA.jH.m)(b:B (p (.M fM) a) s x):B (E (jT bV gm) (λq=>E (jT (tv ba) bz) λaH=>E eE p) a) s x:=T (CK A) (T (U7 a e) (T (PA A O) b))
theorem CF C ae(O:e<w.aA.al.m)(b:B (p (.M fL) a) s x):B (E (jT bV gk) (λq=>E (jT (tv cq) bz) λaH=>E eE p) a) s x:=T (uc A) (T (Gh a e) (T (uH A O) b))
end
inductive ag(y:jU):G->l d->G->Prop where
 |stop {v:G} (b:v.mj=false):ag y v [] v
 |next {e:d} {g i:G} {Y:l d} {n:G} (b:y.al[e]?=c bw) (ak:ag y i Y n):ag y cq (e::Y) n
noncomputable def kq cM(e:d):G:=match y.al[e]? with
 |c (g,_)=>g
 |none=> .V
noncomputable def oq cM(Y:l d):l G:=Y.aa (kq y)
inductive Ch(y:jU):G->G->Prop where
 |om {e:d} {g i:G} (b:y.al[e]?=c bw):Ch y g cq
 |pC {e:d} {g i:G} (b:y.al[e]?=c bw):Ch y i cq
 |gV {e:d} {F:au} {ts:l G} {u:G} (b:y.jH[e]?=c cl) (db:u∈ts):Ch y u ba
noncomputable def sS cM:Prop:=∀v,Acc (Ch y) v
mutual
section
variable {y:jU}
theorem ag.det U{Y cs':l d}{n e':G} bu(h':ag y v cs' e'):Y=cs'/\n=e':=by
 induction b generalizing cs' e' with
 |stop Z=>induction h' with
  |stop=>exact cR
  |next=>cases Z
 |next O ak ih=>cases h' with
  |stop Z=>cases Z
  |next a0 t'=>rw[O] at a0;cases a0;obtain ⟨rfl,rfl⟩:=ih t';exact cR
theorem ag.c9 eH ce U dj:∃Y n,ag y v Y n:=by
 have:=c0 v;induction this with
 |intro v _ ih=>
  cases v with
  |am e=>obtain ⟨⟨g,i⟩,aS⟩:∃I,y.al[e]?=c I:=fV;obtain ⟨Y,n,b⟩:=ih i (.pC aS) (f.r _ (mF aS)).2;exact ⟨e::Y,n,.next aS b⟩
  |num e=>exact dk
  |V=>exact dk
  |ad e=>exact dk
theorem ag.asu U a6 bi bu:n.mj=false:=by
 induction b with
 |stop b=>exact b
 |next _ _ ih=>exact ih
theorem ag.asv ce U a6 bi bu dj:jP y n:=by
 induction b with
 |stop b=>exact Z
 |next b _ ih=>exact ih (f.r _ cH).2
theorem ag.lt U a6 bi bu:∀e∈Y,e<y.al.m:=by
 induction b with
 |stop b=>intro e O;cases O
 |next b _ ih=>
  intro av a0;rcases l.em.mp a0 with rfl|a0
  ·exact nJ b
  ·exact ih av a0
theorem ag.split U a6 bi bu eI(aD:Y=I++F):∃u,ag y u F n:=by
 induction I generalizing v Y with
 |V=>exact ⟨v,by rw[aD] at b;exact b⟩
 |be g I ih=>
  induction b with
  |stop=>cases aD
  |next O ak=>
   rw[l.cons_append] at aD;injection aD with cB aR
   exact ih ak aR
theorem ag.nodup U a6 bi bu:Y.c2:=by
 induction b with
 |stop b=>exact l.nodup_nil
 |@next e g i Y n O ak ih=>
  refine l.en.aT ⟨λb7=>?_,ih⟩;obtain ⟨I,F,rfl⟩:=l.append_of_mem b7;obtain ⟨u,db⟩:=ak.split (I:=I) (F:=e::F) rfl;cases db with
  |next hi' t'=>have:=(ag.det (.next O ak) (.next hi' t')).1;have:=ax l.m this;simp at this;omega
theorem Tr cu[d9 α] dT:∀{p:l α},k.c2->(∀q∈k,q∈p)->k.m<=p.m:=by
 induction k with
 |V=>exact λζ ζ=>d.eq _
 |be g J ih=>intro p nd b;have nd:=l.en.mp nd;have aF:g∈p:=b g et;refine d.succ_le_of_lt (d.cD (ih nd.2 λq b8=>(l.mem_erase_of_ne λF:q=g=>nd.1 (F▸b8)).aT (b q (.tail _ b8))) ?_);rw[l.length_erase_of_mem aF];exact d.sub_lt (l.length_pos_of_mem aF) d.zero_lt_one
set_option tactic.hygienic true in
theorem amk ck(k:l d)(nd:k.c2)(b:∀q∈k,q<h):k.m<=h:=d.bI (Tr nd λq b8=>l.mem_range.aT (b q b8)) (d.df l.length_range)
theorem ag.b_ U a6 bi bu:Y.m<=y.al.m:=amk _ _ b.nodup b.lt
theorem m8 ae a9(b:y.al[e]?=c bw):kq y e=g:=by unfold kq;rw[b]
theorem w7 ce a6:∀v∈oq y Y,jP y v:=by
 intro v Z;obtain ⟨e,_,rfl⟩:=l.mem_map.mp Z;rcases b:y.al[e]? with _|I
 ·unfold kq;rw[b];trivial
 ·exact m8 b▸(f.r _ cH).1
end
inductive lB(y:jU):G->c3 (l G)->Prop where
 |ad {e:d} {F:au} {ts:l G} (b:y.jH[e]?=c cl):lB y ba eL
 |cy {v:G} {Y:l d} (Z:v.bH=false) (b:ag y v Y .V):lB y v (c (oq y Y))
 |bad {v:G} {Y:l d} {n:G} (Z:v.bH=false) (b:ag y v Y n) (cC:n≠ .V):lB y v none
theorem lB.c9 a7 eH ce U dj:∃ap,lB y v ap:=by
 by_cases aF:v.bH=true
 ·cases v<;>try (cases aF;done)
  exact ⟨_,.ad (F:=_) (ts:=_) fU⟩
 ·obtain ⟨Y,n,b⟩:=ag.c9 c0 f Z;by_cases cC:n= .V
  ·subst cC;exact ⟨_,.cy eM b⟩
  ·exact ⟨_,.bad eM b cC⟩
structure c4(y:jU):Prop where
 r:y.al.m<=1000
 h:y.jH.m<=1000
 g:∀I∈y.jH,I.2.m<=1000
theorem lB.f a7 ce U aw eN:∀u∈ts,jP y u:=by
 cases b with
 |ad b=>exact f.g _ cH
 |cy Z b=>exact w7 f
theorem lB.b_ a7(sm:c4 y) U aw eN:ts.m<=1000:=by
 cases b with
 |ad b=>exact sm.g _ cH
 |cy Z b=>unfold oq;rw[l.ek];exact d.bI b.b_ sm.r
mutual
section
variable {a:jE}{o:kD}{w:kG}
theorem uV a7 ae aw(b:y.jH[e]?=c ga):aG y ba= .a5:=by show dl=_;rw[b]
theorem uU a7 ae aw(b:y.jH[e]?=c gc):aG y ba= .str:=by show dl=_;rw[b]
theorem KI a7 ae{bp:s6->Prop}(ab:bp .str)(v:bp .a5):bp (aG y ba):=by
 cases b:y.jH[e]? with
 |none=>exact (show aG y ba= .a5 by show dl=_;rw[b])▸v
 |c I=>
  obtain ⟨F,ts⟩:=I;cases F with
  |true=>exact uU b▸ab
  |false=>exact uV b▸v
theorem Sx a7 U:nH 82 dm=v.mj:=by
 cases v with
 |ad e=>exact KI (bp:=λp=>nH 82 p=false) rfl rfl
 |_=>rfl
theorem vQ a7 U(b:v.bH=false):nH 125 dm=false/\nH 104 dm=false:=by
 cases v with
 |ad=>exact nomatch b
 |_=>exact cR
theorem Fw a7 U:decide (aG y v= .num)=v.p_:=by
 cases v with
 |ad e=>exact KI (bp:=λp=>decide (p= .num)=false) rfl rfl
 |_=>rfl
theorem KA C ae aw dQ cN co:j8 .bf eP a=c (.f (.aP (d.bc 125 aj)),a):=
 (qy A (v:= .ad e) eQ aj bF).t (by rw[uV b];rfl)
theorem B_ C ae aw cT cN co:j8 .bf eP a=c (.f (.aP (d.bc 104 aj)),a):=
 (qy A (v:= .ad e) eQ aj bF).t (by rw[uU b];rfl)
theorem Fg C U aJ:sW cf a=c (.f (.aP v.p_),a):=by
 rw[aaK,jX (Se A Z),Fw];cases v.p_ with
 |false=>rfl
 |true=>exact jX (Sd A Z)
theorem Kz C U aJ:yk cf a=c (.f (.aP (decide bS||v.mj)),a):=by
 rw[aaJ,jX (xD (B9 v o) _)];cases decide bS with
 |true=>rfl
 |false=>exact Sx▸jX (qy A Z 82 rfl)
theorem rH C U aJ:j8 .bf [lv o v,.bs 82] a=c (.f (.aP v.mj),a):=by exact Sx▸qy A Z 82 rfl
theorem S_ C U aJ(b:(decide bS||v.mj)=true):yw cf a=c gz:=by rw[N4,jX eR,b];rfl
theorem K6 C U aJ eS bM{x:D->jE->Prop}(H:∀n j,Ej a n j->x n j):B eT s x:=by rw[N4];exact p7 eR b (yd H)
theorem K7 C bv:yy [.an e] a=c gi:=by rw[abd];exact jX (Fg A (v:= .num e) trivial)
theorem mod2 ck gF:kh .Mod cV (.an 2) j=c (.f (.an (h % 2:d)),j):=by show c (c1.f (D.an (aY.fmod h 2)),j)=_;rw[aY.fmod_eq_emod_of_nonneg _ cZ];rfl
theorem aka C{g i n e':G} eI dL f1(ak:ag w.W g I n)(t':ag w.W i F e')(b:I.m<F.m):qn cQ dM=c false:=by
 have ne:g≠i:=λbL=>bC (ax l.m ((bL▸ak).det t').1) (d.dg b);induction t' with
 |stop=>exact bC b (d.not_lt_zero _)
 |next=>rw[zM A aF bt λbL=>s6.noConfusion bL.2,bZ ne]
theorem US eW(A:aB j o w){g:G} dL(q aH bL:D):D4 (yL q aH cQ bL) j=c (.f g.mj,j):=by rw[ab0];exact jX (rH A aF)
theorem aeT eX eY(b:r % 2=0)(aM:z+1+g/2=i+1+g):z+r/2=i+r:=by rw[aD] at b⊢;rw[d.succ_div_of_mod_eq_zero b];exact d.succ.bG (((d.c5 z 1 (g/2)).symm.t aM).t eZ)|>λn=>(ax (· +1) n)
theorem aeY eX eY(b:r % 2=1)(aM:z+g/2=i+1+g):z+r/2=i+r:=by rw[aD] at b⊢;rw[d.succ_div_of_mod_ne_zero λF=>bC (b.symm.t F) d.one_ne_zero];exact aM.t eZ
theorem aeX{z i r:d}(b:z+r/2=i+r)(aD:0<r):i<z:=
 d.lt_of_not_le λF=>bC b (d.dg (d.cD (d.add_le_add_right F _) (d.add_lt_add_left (d.div_lt_self aD cZ) i)))
theorem ao7 C aI e0{r n:G}{F:l d}(ef:ag w.W r F n):∀{ab:G} {kJ:l d} ai eW,jP w.W r->jP w.W ab->ag w.W ab kJ n->
  kJ.m+k.m/2=F.m+k.m->k.m+F.m<=1000->a<+:j->j[a.m]?=c bb->(∀j,a<+:j->j[a.m]?=c (.ah (k++(oq w.W F).aa cm))->s e1 j)->
  B (E (lG D4 ID (yL v aN (lv o r) (lv o ab))) (kY IE bg) j) s x:=by
 induction ef with
 |@stop r eh=>intro ab kJ k j oc _ _ _ _ pr Q b;refine pT (eh▸US (A.da pr) oc _ _ _) ?_;rw[ab1];exact b j pr ((l.append_nil k).symm▸Q)
 |@next e g i F n O ak ih=>
  intro ab kJ k j oc os hq2 aM b7 pr Q b;have I':=A.da pr;refine qJ (US I' oc _ _ _) ?_;rw[abZ];refine T (v7 Q) (T (xr I' O) (Jp Q (d.cD (d.bI (d.le_add_right _ _) b7) cZ) dZ pr λj pr Q=>?_));have I':=A.da pr;have ob:=(A.f.r _ (mF O)).2;have b4:(k++dp).m=k.m+1:=l.ca;have hm':(k++dp).m+F.m<=1000:=d.bI (d.df (by rw[b4];exact d.c5 _ _ _)) b7;have h':∀j,a<+:j->j[a.m]?=c (.ah ((k++dp)++(oq w.W F).aa cm))->s e1 j:=λj I bE=>b j I (by rw[bE,l.append_assoc,<-m8 O];rfl);refine T (rE I' O) (T (mE Q) (T (mod2 _ _) ?_));rcases d.mod_two_eq_zero_or_one (k++[lv o g]).m with aR|aR
  ·refine bq e2 (eb (ax aY.ofNat aR)) ?_;induction hq2 with
   |stop=>exact bC aM (d.dg (d.cD (d.bI (d.df (d.ep _)) (d.div_le_self _ 2)) (d.lt_add_of_pos_left (d.dh _))))
   |next a0 t2=>have Cv:=(A.f.r _ (mF a0)).2;have n2:=aeT b4 aR aM;exact T (rE I' a0) (T (xD (aka I' ob Cv ak t2 (aeX n2 (b4▸d.dh _))) _) (ih ob Cv t2 n2 hm' pr Q h'))
  ·exact bq e2 (bZ (aR▸nofun)) (ih ob os hq2 (aeY b4 aR aM) hm' pr Q h')
theorem L1 C e3 U aJ a6 bi e4 e0(b:∀h j,a<+:j->a.m<=h->j[h]?=c e5->s (.a1 e6) j):
  B e7 s x:=by
 rw[abg];exact kL (d.eq _) λj pr Q=>ao7 A aD Z Z aD rfl ((d.ep _).symm▸d.bI aD.b_ sm.r) pr Q λj pr Q=>b _ j pr dZ Q
theorem asS C U aJ eS bM:B eT s (λn N=>yM lq n N/\a<+:N):=K6 A Z b λζ ζ b=>b
theorem as8 C e3 U aJ a6 bi e4:
  B e7 (λJ N=>∃h,J= .a1 e6/\a<+:N/\a.m<=h/\N[h]?=c e5) (λζ ζ=>False):=L1 A sm Z aD λh j g i r=>⟨h,rfl,g,i,r⟩
end
end
mutual
example _ h σ τ k w e List ts A W q some x n L Nat ad length a I u v p i jM y bo E hv ok Q Res ζ r t m hk kj V hl l g o s Int sig os b st Step hp jD _ _ _ _ _ _ _ _ _ _ _ made(t:Inv b q e)ac hn nil trans arr bnd int le_trans hc he ho hu map cells length_map Out grow «at» h2 hq list off(j:jU)σ' Args Option bad{v:M}cs hm[lv q]absurd cons h1{j:jU}{h:g M}c ha obj[[.none,.aO s]]Rows codeV hts(sm:Small e.o){n:p}[p.c7 rfl][.ag x]at_ hb σ₀ d replicate[.aO s]chain desc h0 mpr w₀[g M]Bool R get getElem?_eq_getElem toNat{U:g (aB a8)}(C:Mine.Internal.jP e.o v)[-1]{x:p}{E B:Z->jE->Prop}bt cell congrArg f g2 ht inv isA(I:M){k:a9}{I:M}[.aO n][[lv q v]][p.d5 _](i:aA b q e s args)(R:X aZ l0 a7 b q e)«by»{a_:Type}hk' Chain M decide_eq_true elim hy if_neg kindOf length_append push ret reverse small[aB a8]{vs:g M}[.aO b.r][.aw (h.ao aG)][e.qI (aa e.o I h).1][.head _]{Q:aB a8}{d:S}[(k,h)]{m:M}{E:a_->jE->Prop}[l8 _ _]ha' cd decide_eq_false if_pos inj len old refl set step(ad:b[n]?=l bQ)(ax:Off q e n)(aS:∀v∈h,Mine.Internal.jP e.o v)[lv y (aa e.o I h).2][mF Y][t.ll Y][BQ t Y][(n:S)]{j W':jU}[oO b lq](d:S)(a:j.jH[x]?=l bV)(z:M)[by decide][by omega]add_le_add_left glob hi natCast_nonneg z{J:p}(N:h.r<=1000000){aE:g p}[mO _ _][qy t C 125 rfl][KA t Y 125 rfl][xu t Y][B_ t Y 125 rfl][cf -1][bH e.o v][t.ax bv]{d:p}{m z:M}[X.b6 t][⟨y,rfl,W⟩][⟨_,g.bb lO⟩][.ai d](b:jE){z:M}(bF:Lb z)[qy t lO 104 rfl][w.af p'][t9 w][t.as w]{d:Z->bC a_}(w:j.ap<+:W'.ap)False True alloc bool ch drop flatten forL getElem?_map hL hd hg hnew hr j le_of_ble_eq_true mul_le_mul_left ofNat_le ofNat_lt prefix_refl succ zero(a:aQ j vs U)(ad:d+1<=n)[d+1](bn:Mine.Internal.jP e.o I)(D:oA j){y:kD}{c:jE}(O:g M)[.tail _ C]{f:M}[uo bu b]«do»[O.ao aG][qy t C 104 rfl][s++V][⟨false,rfl,nofun,λk=>k.bE⟩][lv q v][(.D dt,b)][(by rw[K];rfl)][(d:S)][jT a2 (.ai 0)](i:aA b q e s [m,z]){B:Z->jE->Prop}(m:M)[yr aP b][A (mE cd) ?_][lv q z][AJ aP b](e:kG)[.aO J][.ai n][j.n6 x (k,g.a1 h.r z)][AN aP b][t.ax cO][i.as w][nw w p' e'][K8 _ _](i:aA b q e s [m])(am:lB e.o m Q)add_comm add_le_add append_assoc decide_eq_true_iff eq_ofNat_of_zero_le eq_of_mem_replicate ex g1 getElem?_append_left gl hf hx hz isinstance le_add_left le_refl length_reverse map_append map_congr_left map_map mem_reverse not_lt of_decide_eq_false or_eq_false_iff sub_le toNat_natCast[(h++·)]{us:g M}[.aw ((h++us).ao aG)][Eg .none a2 bP pl][⟨a0.1,w.af a0.2⟩][(by rw[Jb,Q3];rfl)][AU aP b][lu U][lu U=none->∀f c,oO b lq f c->B f c][p.zero_le _]{J:S}[n -df](aN:s<=200)(N:O+200*n<=1000)[n -d][(200*et:p)][p.c8 200 (p.ed _ _)][vs++[I]](i:aA b q e s ew)(N:e.o.ap.r+200*vs.r<=1000)(am:aQ e.o vs U)(c5:∀h,l h∈U->h.r<=200)[vs.r -d](bn:jP j I)[.ag e.o.jH.r][xj▸mF pe][AI aP b][mE i.aX][p.succ_pos _]{m:Z}{H:g M}{pl:aB Z}[λG=>cT][sX [.aO n,lv q I] b][A (Ak _ _ _) ?_][g.da _][v= .ae][Ca (B9 f q) _](am:lB e.o v Q)[λH=>bK H][Kz t C][fin rfl cd N][B_ t Y 104 rfl][.ai x][0<=x](v:M)[(false,h)][(true,h)](b5:aZ.r<=n)(hcd:bH e.o v= .str->∀u∈h,aR u)[e.qI (nk e.o v h).1][wh [lv q v,.aO n] b][mu ?_][(by rw[g.aq];exact N)][λG G=>cS](q:kD)[.aw (args.ao aG)](a:args[d]?=l v)[mF a]{az:jE}[oK i.aX](i:aA b q e s (v::args))(a:F (d dt b) E B){u:M}[i.lN (d:=0) rfl][i.lN (d:=1) rfl](m z:M)(C:jP e.o v)[AS aP b][rH t lO][yd λG G a=>a]{kk:Z->bC a_}(a:n<=1000000)[Cg b _ _][0<=d/\d<h.r][L i fm][¬fq->∀f c,oO b nC f c->B f c][.ll x][.aO (q ft)][g.bb aF][p7 (B8 t lO) rfl (L i ?_)][L i tl][S.c_.mp K.2][⟨f▸S.cq J,f▸S.c_.a6 aF⟩][λJ f aF=>aH fz K][(-1:S)][j.n6 x (k,h.b7 d.bc z)][if nA k z=true then .D z fC else .T lq][[lv q z]][e.o.tR _ _][i.ba (d:=2) rfl rfl](ad:n<=1000000)[.aw fE][(k,g.a1 h.r z)][sm.s _ cc][e.qI (e.o.n6 x fJ)][upd q ft k8.r][X.as t cN][A (mE ((t.as w).ll Y)) ?_][i.as cN][t.as cN][i.b8 dM fF][.ag j.jH.r][EU _ _ _][AP aP b][K7 cP][Cm _ _ _](a:lB j v Q)[.bj e.o.ap.r][a.ext w][mu (qW t sm lO am nofun λG G G a=>a)][mu (qW t sm lO am (λts' n c f w G N=>?_) nofun)][mE N][bl h](b0:yC e.o)[L i f0][am.b4 sm][uF e.o m ga Q][X.as t w]P as id:True:=x
noncomputable def aa ay bq:g M->jU×M
 |[]=>(j,I)
 |m::H=>((aa j I H).1.bJ (m,(aa j I H).2),.bj (aa j I H).1.ap.r)
theorem made_le ay bq:∀O,j.nW (aa j I O).1
 |[]=> .b6 _
 |m::H=>(made_le j I H).af (jU.Fy _ _)
theorem xG aK bs eC:∀O,jP (aa j I O).1 (aa j I O).2
 |[]=>bn
 |m::H=>by show _<_;simp [aa,jU.bJ]
theorem asQ aK bs dh eC dk(a:∀v∈O,jP j v):oA (aa j I O).1:=by
 induction O with
 |ae=>exact D
 |aI m H ih=>exact (ih λv C=>a v dl).bJ ((a m bS).le (made_le j I H)) (xG bn H)
theorem vU ay bq:∀O,(aa j I O).1.jH=j.jH
 |[]=>rfl
 |m::H=>vU j I H
theorem KY ay bq dk:(aa j I O).1.ap.r=j.ap.r+O.r:=by
 induction O with
 |ae=>rfl
 |aI m H ih=>exact g.bI.af (bk (· +1) ih)
theorem alC ay bq(V s:g M):aa j I dr=aa (aa j I V).1 (aa j I V).2 s:=by
 induction s with
 |ae=>rfl
 |aI m H ih=>exact bk (λw:jU×M=>(w.1.bJ (m,w.2),M.bj w.1.ap.r)) ih
noncomputable def a4:p->g Z
 |0=>[]
 |n+1=> .ai n::a4 n
theorem anJ(n:p):(qE cA bf bf).ao Z.ai=a4 n:=by
 have key:∀n:p,(g.range n).ao (λd:p=>Z.ai (cf -1+ -1*dw))=a4 n:=by
  intro n;induction n with
  |dc=>rfl
  |db n ih=>
   rw[g.range_succ_eq_map,g.map_cons,g.d9];show _=Z.ai n::a4 n;rw[<-ih];congr 1
   ·congr 1;omega
   ·refine g.d8 λd G=>?_;show Z.ai _=Z.ai _;congr 1;simp only [p.succ_eq_add_one];omega
 rw[<-key n];unfold qE;rw[bG cl];have:(cf -1 - -1 - -1 -1).fdiv (- -1)=n:=by rw[show (cf -1 - -1 - -1 -1)=n by omega,show (- -1:S)=1 by decide];simp
 rw[this,g.d9,S.ee];rfl
theorem UO aU fo:bM cf=true:=by unfold bM;simp;omega
theorem Un aU cJ fo:rO [.ai cA,.ai bf,.ai bf] b=l (.D ⟨a4 n,λG=>cT⟩,b):=by
 refine nS ((j7 rfl).af ((j7 rfl).af ((j7 rfl).af ?_)));rw[show (bM cA&&bM bf&&(decide (fB=1)||decide (fB= -1)))=true by unfold bM;simp;omega]
 show l (It.mk ((qE cA bf bf).ao .ai) _)=_;rw[anJ]
noncomputable abbrev kG.qI dF(o:jU):kG:={e with o:=o}
mutual
section
variable {aZ b:jE}{l0 q:kD}{a7 e:kG}{E B:Z->jE->Prop}
theorem X.jP bx:oA e.o:=R.bo.D
theorem PM bz cQ bX bx{s V:M}(aN:Mine.Internal.jP e.o s)(aY:Mine.Internal.jP e.o V)
  (P:∀y c,b<+:c->X aZ l0 a7 c y (e.qI (e.o.bJ (s,V)))->F (d (lv y fY) c) E B):F (ah (k9 82 yj [lv q s,lv q V]) d b) E B:=
 A (amb b _ _) (lF q (.lc e.o.ap.r) b.r▸P _ _ bY (apk R aN aY))
theorem Es bz cQ bX bx cs br eg(an:∀v∈us,Mine.Internal.jP e.o v)(aF:b[J]?=l (.aw (us.ao aG)))(ax:Off q e J)(b5:aZ.r<=J)
  {bl:bC Z}(d0:bl b=l (.D bP,b++[ru (λG=>J) 0 k]))
  (P:∀y c,b<+:c->X aZ l0 a7 c y (e.qI (e.o.lE (k,us)))->F (d (lv y eD) c) E B):F (ah bl d b) E B:=
 A d0 (lF (upd q (.ll e.o.jH.r) J) (.la e.o.jH.r) b.r▸P _ _ bY (Gg R an aF ax b5))
theorem aln ab aU aL bs b9 b_ ca dg eI
  (a:∀y c,b<+:c->X b q e c y bR->E cb c):∀(w:g M) eJ di dj eK,h=w.bL++H->b<+:c->X b q e c y (e.qI (aa e.o I H).1)->
  F (ah (cZ eL D3 (a4 w.r) (Bd bt m (lv y (aa e.o I H).2) pl)) (kY Iw bK) c) E B:=by
 intro w;induction w with
 |ae=>intro H y c pl f pr W;subst f;refine tH ⟨⟩ ?_;rw[abV];exact a _ _ pr W
 |aI v w ih=>
  intro H y c pl f pr W;refine tG ⟨⟩ ?_;rw[abW];have e':h=w.bL++v::H:=by rw[f,g.reverse_cons,g.dS];rfl
  have ov:=aS v (by rw[e'];simp);refine A (s:=lv q v) (nI (d:=w.r) ((W.same (oK ad) ax).af ad) (by rw[e',g.c0];simp) rfl) ?_;exact W.lv ov▸PM W (ov.le (made_le _ _ _)) (xG bn _) λyT jJ p' st'=>ih e' (pr.af p') st'
theorem KS bx aU aL bs b9 b_ ct ca dg
  (a:∀y c,b<+:c->X aZ l0 a7 c y bR->E cb c):F eM E B:=by
 rw[N1];refine A (mE ad) eN;rw[g.aq];refine A (Un _ N) ?_;have:=aln (B:=B) (m:=lv q I) R.bo ad ax aS bn (λy c w W=>a y c w (R.af W)) h.bL (H:=[]) (pl:=none) (by simp) eO (X.b6 R.bo);rw[g.d6] at this;exact this
theorem SK(n:Z):sX [n]=sX [n,.co 64]:=(aba n).af (N1 n (.co 64)).symm
theorem ap2 ab aT aD be cu dm(ak:bB e.o v aE f)
  (a:f= .ae->∀n c,b<+:c->b.r<=n->c[n]?=l (.aw ((oq e.o aE).ao aG))->E bt c)(P:f≠ .ae->∀m c,Ej b m c->B m c):F (Dj bu b) E B:=by
 rw[abh];cases K:decide eP||v.mj with
 |true=>
  refine A (S_ t C K) (mu (L1 t sm C ak λn c pr ad N=>?_));refine bi (xD (is_none f q) _) rfl ?_;by_cases al:f= .ae
  ·exact bi (aM:=false) eQ (by rw[bD al];rfl) (a al n c pr ad N)
  ·exact bi (aM:=true) eQ (by rw[b1 al];rfl) (yd λm k8 k=>P al m k8 ⟨k.1,pr.af k.2⟩)
 |false=>
  refine mu (K6 t C K (P λal=>?_));rw[a9.ec] at K;induction ak with
  |stop=>exact eb K.1 al
  |next=>exact nomatch K.2
theorem qW ab aT aD be bT eR
  (a:∀h n c,Q=l h->b<+:c->b.r<=n->c[n]?=l bQ->E bt c)(P:Q=none->∀m c,Ej b m c->B m c):F dn E B:=by
 have fin:∀{O:g M} aU,Q=l O->b[n]?=l (.aw dp)->O.r<=1000->F (ah (j8 .aw [.aO n]) eS b) E B:=λf ad N=>
  A (Cj ad (by rw[g.aq];exact p.aj N cl)) (a _ _ _ f bY bv cv)
 have cW:∀{aE f},v.bp=false->bB e.o v aE f->(f= .ae->Q=l (oq e.o aE))->(f≠ .ae->Q=none)->F dn E B:=λ{aE f} aN ak aJ au=>by
  rw[N7];refine ly cw (vQ aN).1 (ly dq (vQ aN).2 ?_);cases K:decide eP||v.mj with
  |true=>exact p7 eT K (mu (ap2 t sm C ak (λal n c s V aM=>a _ _ _ (aJ al) s V aM) λal=>P (au al)))
  |false=>
   refine p7 eT K (yd (P (au λal=>?_)));rw[a9.ec] at K;induction ak with
   |stop=>exact eb K.1 al
   |next=>exact nomatch K.2
 induction am with
 |@ag x k h Y=>
  rw[N7];have N:=sm.s _ cc;cases k with
  |false=>exact ly cx rfl (A cy eU)
  |true=>exact ly cz rfl (ly eV rfl (A ce eU))
 |a3 hv' ak=>exact cW hv' ak (λG=>rfl) λk=>aH rfl k
 |aC hv' ak al=>exact cW hv' ak (λk=>aH k al) λG=>rfl
noncomputable def aR:M->Prop
 | .num x=>0<=x/\x<=4194303
 |_=>cS
theorem Sa ab aD be:∃k,Df bu b=l (.D (.cV k),b)/\(k=true↔aR v):=by
 rw[aaI,jX (Fg t C)];cases v with
 |num x=>
  have aY:NK eW b=l (.D (.cV (decide eX&&decide (x<=4194303))),b):=by
   refine (jX (Cg b 0 x)).af ?_;cases decide eX with
   |false=>rfl
   |true=>exact jX (Cg b x _)
  exact ⟨_,aY,by rw[a9.and_eq_true,dT,dT];exact Iff.rfl⟩
 |ae=>exact ds
 |bj n=>exact ds
 |ag n=>exact ds
theorem S9 ab aD be(ak:aR v):vq bu b=l du:=by obtain ⟨k,f,a⟩:=Sa t C;rw[N2,jX f,a.a6 ak];rfl
theorem al_ ab aD be(ak:¬aR v)(P:∀m c,Ej b m c->B m c):F (vq bu b) E B:=by obtain ⟨k,f,a⟩:=Sa t C;rw[N2];exact p7 f (a9.eq_false_iff.a6 λcr=>ak (a.mp cr)) (yd P)
noncomputable def nk ay eY(h:g M):jU×M:=match bH j v with
 | .vec=>(j.lE eZ,.ag j.jH.r)
 | .str=>(j.lE e0,.ag j.jH.r)
 |_=>aa j .ae h
theorem ago bz bX ab{P:jE->Prop}(c3:P b):∀dk {d:g Z->bC a_},(∀u∈O,Mine.Internal.jP e.o u/\aR u)->F (d dp b) E B->
  F (ah (ki P (λm=>ah (vq [m]) λH=>bK [H]) dp) d b) E B:=by
 intro O;induction O with
 |ae=>exact λG a=>sA c3 a
 |aI u O ih=>exact λan a=>sy c3 (A (S9 t (an u bS).1 (an u bS).2) (ih (λv C=>an v dl) a))
theorem Ja bx aU aD aL be b9 b_ e1 ct ca
  e2(a:∀y c,X aZ l0 a7 c y e3->E (lv y (nk e.o v h).2) c):F e4 E B:=by
 have t:=R.bo;rw[aaB];unfold nk at a;have ls:nH 125 cB=false->nH 104 cB=false->(∀y c,X aZ l0 a7 c y (e.qI (aa e.o .ae h).1)->E (lv y (aa e.o .ae h).2) c)->F (ah (j8 .d3 [lv q v,.co 125]) (λH=>jY H λk=>match k with|true=>NL bt|false=>NO dt bt) b) E B:=λs V a=>by refine ly cw s (ly dq V e5);rw[SK];exact KS R ad ax N aS (I:= .ae) ⟨⟩ λy c G W=>a y c W
 cases K:bH e.o v with
 |vec=>rw[K] at a;exact ly (aM:=true) cw dv (Es R (k:=false) aS ad ax b5 (K8 b _) λy c G W=>a y c W)
 |str=>rw[K] at a;refine ly (aM:=false) cw dv (ly (aM:=true) dq dv (A (nX ad) (ago t ad h (λu an=>⟨aS u an,hcd K u an⟩) ?_)));exact kL e6 λc w f=>Es (R.more w) (k:=true) aS f cC R.W.b4 (Th _ _) λy c G W=>a y c W
 |num=>rw[K] at a ls;exact ls rfl rfl a
 |ae=>rw[K] at a ls;exact ls rfl rfl a
 |bj=>rw[K] at a ls;exact ls rfl rfl a
theorem alp bx aU aL bs b9 b_ ct ca dg:
  F eM (λH az=>b<+:az/\∃y,H=lv y (aa e.o I h).2/\X aZ l0 a7 az y bR) e7:=KS R ad ax N aS bn λy c s V=>⟨s,y,rfl,V⟩
theorem ata ab aT aD be bT eR:
  F dn (λH az=>∃h n,Q=l h/\H= .aO n/\b<+:az/\b.r<=n/\az[n]?=l bQ) (λm az=>Q=none/\yM lq m az/\b<+:az):=qW t sm C am (λh n c s V aM a0=>⟨h,n,s,rfl,V,aM,a0⟩) λs G G a=>⟨s,a⟩
theorem Pn bx aU aD aL be b9 b_ e1 ct ca
  e2:F e4 (λH az=>∃y,H=lv y (nk e.o v h).2/\X aZ l0 a7 az y e3) e7:=Ja R C ad ax b5 N aS hcd λy G a=>⟨y,rfl,a⟩
end
inductive ar where
 |D (v:M) (j:jU)
 |T (R:Str)
theorem ar.D.b3{v v':M} cg(a:ar.D v j= .D v' W'):v=v'/\j=W':=by cases a;exact ⟨rfl,rfl⟩
theorem ar.T.b3{R I:Str}(a:ar.T R= .T I):R=I:=by cases a;rfl
noncomputable def No(_:Z)(_:jE):Prop:=cS
noncomputable def N_ cJ e8 dF eY ay(m:Z)(c:jE):Prop:=∃y,m=lv y v/\X b q e c y (e.qI j)
noncomputable def mS(H:aB (Except Z Z×jE)) cJ e8 dF:ar->Prop
 | .D v j=>F H (N_ b q e v j) No
 | .T R=>F H No (oO b R)
structure aA(b:jE)(q:kD)(e:kG)(s:p)(args:g M):Prop where
 aX:b[s]?=l e9
 ax:Off q e s
 D:∀v∈args,jP e.o v
mutual
section
variable {b:jE}{q:kD}{e:kG}{s:p}{args:g M}
theorem aA.ba bw cD aD e_{x:S}(cp:x=dw):jT a2 eW b=l du:=
 nI i.aX (g.c0.af (bk (aB.ao aG) a)) cp
theorem aA.lN bw cD aD e_:jP e.o v:=i.D v fa
theorem aA.b8 bw fb di{w':kG}(R:X b q e az y w')(le:e.o.nW w'.o):aA az y w' s args:=
 ⟨(R.same fc i.ax).af (R.FP i.D▸i.aX),R.ax fc i.ax,λv C=>(i.D v C).le le⟩
theorem aA.as bw fb(w:b<+:az):aA az q e s args:=⟨kZ w i.aX,i.ax,i.D⟩
mutual
section
variable {a_:Type}{d:Z->bC a_}{E:a_->jE->Prop}{B:Z->jE->Prop}{v:M}
theorem L fd fe:F (ah dx d b) E B:=A (i.ba (d:=0) rfl rfl) a
theorem nN ff(i:aA b q e s (u::v::args)) fe:F (ah (jT a2 (.ai 1)) d b) E B:=A (i.ba (d:=1) rfl rfl) a
end
theorem ak1 cE ab dy:mS (AK aP b) b q e (.D fY (e.o.bJ (m,z))):=by show F _ _ _;rw[aa2];exact L i (nN i (PM cF fg fh λy c G W=>cG))
noncomputable def LU ay fi:ar:=match m with
 | .bj x=> .D z (j.lC x (kq j x,z))
 |_=> .T lq
theorem ama ab aD fj(a:v.mj=true):Dg bu b=l du:=by rw[N3,jX (rH t C),a];rfl
theorem ald cE ab dy:mS fk b q e (LU e.o m z):=by
 have lO:=i.lN (d:=0) rfl;have aC:m.mj=false->F fk No ch:=λa=>by rw[NZ];refine nN i (L i e5);rw[N3];exact p7 fl a fm
 cases m with
 |bj x=>obtain ⟨⟨V,aM⟩,Y⟩:∃w,e.o.ap[x]?=l w:=cH;show F _ (N_ _ _ _ _ (e.o.lC x (kq e.o x,z))) _;rw[NZ,m8 Y];have W:=L6 cF lO (t.D.aM _ cc).1 fh;exact nN i (L i (A (ama t lO rfl) (A (LS t Y z) (nN (i.b8 W (e.o.uW _ _)) ⟨_,rfl,W⟩))))
 |_=>exact aC rfl
theorem B8 ab aD fj:AD bu b=l (.D (.cV v.bp),b):=by
 have:(nH 125 cB||nH 104 cB)=v.bp:=by
  cases v with
  |ag x=>exact KI (f9:=λd=>(nH 125 d||nH 104 d)=true) rfl rfl
  |_=>rfl
 rw[aaH,jX (Sf t C 125 104 rfl rfl),this];rfl
theorem Jr bz fn bX dz ab{v:Z} bU aU(a:∀J:p,d=J->J<n->F (kk cI b) E B)(P:¬(0<=d/\d<n)->∀f c,oO b nC f c->B f c):
  F (ah (yx [v,.ai d,.ai n]) kk b) E B:=by
 refine mu ?_;rw[abc];refine A (K7 t) ?_;by_cases a5:0<=d
 ·refine bi fp (bD a5) (A (Cm b _ _) ?_);by_cases aJ:d<n
  ·rw[bD aJ];exact a d.bc (S.toNat_of_nonneg a5).symm cm
  ·rw[b1 aJ];exact LX aV (P λk=>aJ k.2)
 ·exact bi fp (b1 a5) (LX aV (P λk=>a5 k.1))
noncomputable def tw ay dA ci:ar:=match m with
 | .ag x=>match j.jH[x]? with
  |l (_,h)=>match h[d.bc]? with
   |l u=>if 0<=d then .D u j else .T nC
   |none=> .T nC
  |none=> .T nC
 |_=> .T lq
theorem Pz aK bg br aL cj ci:tw j aW d=(match h[d.bc]? with|l u=>if 0<=d then .D u j else .T nC|none=> .T nC):=by show (match j.jH[x]? with|l (_,h)=>(match h[d.bc]? with|l u=>if 0<=d then ar.D u j else .T nC|none=> .T nC)|none=> .T nC)=_;rw[a]
theorem Jg aK bg br aL cD ff cj(an:h[d]?=l u):tw j aW d= .D u j:=by rw[Pz a,S.ee,an];exact b2 (S.cq d)
theorem Jf aK bg br aL bU cj(K:¬fq):tw j aW d= .T nC:=by
 rw[Pz a];by_cases a5:0<=d
 ·rw[g.getElem?_eq_none cm]
 ·cases h[d.bc]? with
  |none=>rfl
  |l u=>exact bG a5
theorem PB aD{d:Str}{R:Z} ab fd(bl:bC Z)(a:v.bp=false):
  F (ah dx (λz=>ah (AD [z]) λH=>k6 .Not H λH=>jY H λk=>match k with|true=>C6 a2|false=>bl) b) No ch:=
 L i (p7 (B8 t fg) a fr)
theorem SI bW bU ab(i:aA b q e s [m,.num d]):mS dB b q e (tw e.o m d):=by
 have lO:=i.lN (d:=0) rfl;have aC:m.bp=false->F dB No ch:=λa=>by rw[NW];exact PB (d:=lq) (R:= .none) t i _ a
 cases m with
 |ag x=>
  obtain ⟨⟨k,h⟩,Y⟩:∃w,e.o.jH[x]?=l w:=cH;have pre:∀bh,(∀J:p,d=J->J<h.r->∀u,h[J]?=l u->E (lv q u) b)->fs->F dB E B:=by
   intro E B a P;have tl:F (NQ a2 fu (lv q aW) b) E B:=by refine nN i dC;rw[g.aq];exact Jr t (λJ f aF=>A (nI (d:=J) cd (g.c0.af (bk _ fv)) f) (a J f aF _ fv)) P
   rw[NW];refine L i fw;cases k with
   |false=>exact ly cx rfl (L i (A cy fx))
   |true=>exact ly cz rfl (L i (A ce fx))
  by_cases K:0<=d/\d<h.r
  ·clear i;obtain ⟨n,rfl⟩:=S.dU K.1;rw[Jg Y (g.bb fy)];exact pre (λJ f aF u an=>⟨q,by rw[<-S.ofNat.b3 f,g.bb fy] at an;rw[aB.l.b3 an],X.b6 t⟩) λk=>aH K k
  ·rw[Jf Y K];exact pre fA λG G G a=>a
 |_=>exact aC rfl
inductive II(z:M):a9->aB Str->Prop where
 |vec:II z false none
 |str (a:aR z):II z true none
 |aC (a:¬aR z):II z true (l lq)
noncomputable def Lb:M->Prop
 | .num x=> -1<=x/\x<=4000000
 |_=>cT
noncomputable def nA(k:a9) ck:a9:= !k||match z with
 | .num c6=>decide (0<=c6)
 |_=>false
theorem LB cK cL:nA true z=true↔aR z:=by
 cases z with
 |num c6=>exact ⟨λa=>⟨of_decide_eq_true a,S.aj bF.2 cl⟩,λa=>bD a.1⟩
 |_=>exact ⟨nofun,λa=>a.bE⟩
noncomputable def yW ay dA ci ck:ar:=match m with
 | .ag x=>match j.jH[x]? with
  |l bV=>if 0<=d/\d<h.r then fD else .T nC
  |none=> .T nC
 |_=> .T lq
theorem Jm aK bg br aL cj ci ck:yW j aW d z=if 0<=d/\d<h.r then fD else .T nC:=by show (match j.jH[x]? with|l bV=>(if 0<=d/\d<h.r then (if nA k z=true then ar.D z fC else .T lq) else .T nC)|none=> .T nC)=_;rw[a]
theorem PL bz fn bX dz ab cK(oy:jP e.o z) cL(a:nA true z=true->F (kk dD b) E B)(P:¬nA true z=true->∀f c,oO b lq f c->B f c):F (ah (vq fE) kk b) E B:=by
 by_cases ak:aR z
 ·exact A (S9 t oy ak) (a ((LB bF).a6 ak))
 ·exact mu (al_ t oy ak (P λk=>ak ((LB bF).mp k)))
theorem ak0 cE bU ab(i:aA b q e s [m,.num d,z]) cL:mS dE b q e (yW e.o m d z):=by
 have lO:=i.lN (d:=0) rfl;have pF:=i.lN (d:=2) rfl;have aC:m.bp=false->F dE No ch:=λa=>by rw[NX];exact PB (d:=lq) (R:= .none) t i _ a
 cases m with
 |ag x=>
  obtain ⟨⟨k,h⟩,Y⟩:∃w,e.o.jH[x]?=l w:=cH;have pre:∀bh,(∀J:p,d=J->J<h.r->nA k z=true->∀c,X b q e c q (e.qI (e.o.n6 x (k,h.b7 J z)))->E dD c)->(0<=d/\d<h.r->¬nA k z=true->∀f c,oO b lq f c->B f c)->fs->F dE E B:=by
   intro E B a dX bm;have put:∀cs,d=J->J<h.r->nA k z=true->F (ah (pn fu cI dD) (λG=>ah (jT a2 (.ai 2)) λH=>bK H) b) E B:=λ{J} f aF av=>by have W:=apr cF Y (us:=h.b7 J z) λv C=>(g.mem_or_eq_of_mem_set C).bE (t.D.s _ cc v) λf=>f▸pF;rw[g.map_set] at W;exact A (wc (d:=J) cd (g.aq aG▸aF) f) (A ((i.b8 W fF).ba (d:=2) rfl rfl) (a J f aF av _ W))
   rw[NX];refine L i fw;have N:=g.aq aG (f_:=h);cases k with
   |false=>refine ly cx rfl (A fG (L i (A cy (L i (nN i (L i (A cy dC)))))));rw[N];exact Jr t (λJ f aF=>put f aF rfl) bm
   |true=>refine ly cz rfl (L i (nN i (L i (A ce dC))));rw[N];exact Jr t (λJ f aF=>A fG (PL t pF bF (λav=>L i (A ce (put f aF av))) (dX fz))) bm
  rw[Jm Y];by_cases K:0<=d/\d<h.r
  ·rw[b2 K];by_cases av:nA k z=true
   ·rw[b2 av];exact pre (λJ f G G c W=>⟨q,rfl,by rw[f];exact W⟩) (λG k=>aH av k) λk=>aH K k
   ·rw[bG av];exact pre (λG G G k=>aH k av) (λG G G G a=>a) λk=>aH K k
  ·rw[bG K];exact pre fA (λk=>aH k K) λG G G a=>a
 |_=>exact aC rfl
theorem K1 cs eI aU(a:b[J]?=l (.aw [m])) fH:kh .Mult dG dH b=l (.D bP,b++[.aw (g.a1 n m)]):=by
 refine (zd (J:=cU (.aw (g.a1 n [m]).cY)) ?_:rB (λb=>ob (tB dH) λd=>kX (bM d) (ob (tS b dG) λO=>l (cU (.aw (g.a1 d.bc O).cY)))) b=_).af ?_
 ·refine (j7 rfl).af ?_;rw[UO ad];exact j7 (pN a)
 ·rw[show (g.a1 n [m]).cY=g.a1 n m by simp];exact oV b (by simpa using ad)
theorem Jq bz cQ bX dz cs cK aU(a:b[J]?=l fI) fH(P:∀c,b<+:c->c[b.r]?=l (.aw ((g.a1 n z).ao aG))->F (d bP c) E B):F (ah (kh .Mult dG dH) d b) E B:=A (K1 a ad) (P _ bY (g.map_replicate▸mO _ _))
noncomputable def zA ay fi:ar:=match m with
 | .ag x=>match j.jH[x]? with
  |l bV=>if nA k z=true then .D m dI else .T lq
  |none=> .T lq
 |_=> .T lq
theorem JU aK bg br aL cj ck:zA j aW z=if nA k z=true then .D aW dI else .T lq:=by show (match j.jH[x]? with|l bV=>(if nA k z=true then ar.D aW dI else .T lq)|none=> .T lq)=_;rw[a]
theorem ak9 cE ab aT dy cL:mS dJ b q e (zA e.o m z):=by
 have lO:=i.lN (d:=0) rfl;have pF:=i.lN (d:=1) rfl;have aC:m.bp=false->F dJ No ch:=λa=>by rw[NY];exact L i (ly (qy t lO 125 rfl) (vQ a).1 (L i (ly cM (vQ a).2 fr)))
 cases m with
 |ag x=>
  obtain ⟨⟨k,h⟩,Y⟩:∃w,e.o.jH[x]?=l w:=cH;have N:h.r<=1000000:=p.aj fK cl;have pre:∀bh,(nA k z=true->∀y c,X b q e c y fL->E (lv y aW) c)->(¬nA k z=true->∀f c,oO b lq f c->B f c)->F dJ E B:=by
   intro E B a P;have amS:∀v∈g.a1 h.r z,jP e.o v:=λv C=>g.dV C▸pF;have nw:∀{k8 c:jE},b<+:k8->k8<+:c->c[k8.r]?=l (.aw ((g.a1 h.r z).ao aG))->X b q e (c.b7 (q (.la x)) (ru fM x k)) fM fL:=λw p' f=>UW fN Y amS f dK cO;rw[NY];refine L i ?_;cases k with
   |false=>refine ly cx rfl (nN i (kL aV λk8 w f=>L dL (A (xu cP Y) fO)));rw[g.aq];exact Jq f N λc p' e'=>L fP (A (UI fQ Y) (L fR (a rfl _ _ dM)))
   |true=>refine ly cz rfl (L i (ly eV rfl (nN i (PL t pF bF (λav=>kL aV λk8 w f=>L dL (A (BQ cP Y) fO)) P))));rw[g.aq];exact Jq f N λc p' e'=>L fP (A (aoD fQ Y) (L fR (a av _ _ dM)))
  rw[JU Y];by_cases av:nA k z=true
  ·rw[b2 av];exact pre (λG y c W=>cG) λk=>aH av k
  ·rw[bG av];exact pre (λk=>aH k av) λG G G a=>a
 |_=>exact aC rfl
theorem alf ab bw(N:args.r<=1000000):mS (AV aP b) b q e (.D eD (e.o.lE (false,args))):=by show F _ _ _;rw[aa_];exact A (Cj i.aX e6) (Es (X.as t bY) (k:=false) i.D cv cC bv dN λy c G W=>cG)
noncomputable def z3 ay ci ck:ar:=if d<0 then .T lq else .D fS (j.lE (false,g.a1 d.bc z))
theorem K5 cJ bU(a:d<=1048576):AW [.ai d] b=l (.D cI,b):=by rw[abb,jX fT,b1 (S.ea.a6 a)];rfl
theorem ala bU cK ab(i:aA b q e s [.num d,z])(K:d<=1000):mS fU b q e (z3 e.o d z):=by
 have pre:∀bh,(∀k8,b<+:k8->k8[b.r]?=l fI->F (MQ bP cI k8) E B)->F fU E B:=λa=>by rw[aa5];exact nN i (kL aV λk8 w f=>L dL (a k8 w f))
 unfold z3;by_cases a:d<0
 ·rw[b2 a];refine pre λk8 w f=>mu ?_;rw[N5];exact A fV (bi fW (bD a) (yd λm c k=>⟨k.1,w.af k.2⟩))
 ·rw[bG a];obtain ⟨n,rfl⟩:=S.dU (S.ea.mp a);refine pre λk8 w f=>A (s:= .ai n) (az:=k8) ?_ (Jq f cm λc p' e'=>Es fN (k:=false) (λv C=>g.dV C▸i.lN (d:=1) rfl) e' dK cO dN λy c G W=>cG);rw[N5,jX fV,jX fW,b1 a];exact jX (K5 k8 cm)
end
theorem Lz{α:Type}{O l':g α}(w:O<+:l') bg{m:α}(a:O[x]?=l m):l'[x]?=l m:=by obtain ⟨I,rfl⟩:=w;rw[g.dY (nJ a)];exact a
theorem bB.ext cg cR aD cu dm(a:bB j v aE f):bB W' v aE f:=by
 induction a with
 |stop a=>exact .stop a
 |next a _ ih=>exact .next (Lz w a) ih
theorem afO cg cR bg(a:x<j.ap.r):kq W' x=kq j x:=by have aJ:j.ap[x]?=l j.ap[x]:=g.bb a;rw[m8 (s:=j.ap[x].1) (V:=j.ap[x].2) aJ,m8 (s:=j.ap[x].1) (V:=j.ap[x].2) (Lz w aJ)]
theorem afP cg cR cu(a:∀x∈aE,x<j.ap.r):oq W' aE=oq j aE:=
 g.d8 λx cp=>afO w (a x cp)
theorem lB.ext cg cR(k:j.jH<+:W'.jH) aD bT fX:lB W' v Q:=by
 induction a with
 |ag a=>exact .ag (Lz k a)
 |a3 C a=>rw[<-afP w a.lt];exact .a3 C fZ
 |aC C a al=>exact .aC C fZ al
theorem SW ay bq:∀O,j.ap<+:(aa j I O).1.ap
 |[]=>g.da _
 |m::H=>(SW j I H).af ⟨_,rfl⟩
theorem lB.det aK aD{Q o':aB a8} fX(h':lB j v o'):Q=o':=by
 induction a with
 |ag a=>cases h' with
  |ag au=>rw[a] at au;cases au;rfl
  |a3 C _=>cases C
  |aC C _ _=>cases C
 |a3 C a=>induction h' with
  |ag au=>cases C
  |a3 _ au=>rw[(a.det au).1]
  |aC _ au al=>exact aH (a.det au).2.symm al
 |aC C a al=>induction h' with
  |ag au=>cases C
  |a3 _ au=>exact aH (a.det au).2 al
  |aC _ au al=>rfl
theorem we bz{b:jE} aU{O:g Z} cQ(a:b[n]?=l (.aw O))(N:O.r<=1000000):lY bt none none (l (.ai bf)) d b=d bP (b++[.aw O.bL]):=by show ah (ry bt) _ b=_;rw[jX (Jl a)];show ah (cU (.aw O.bL)) d b=_;rw[jX (oV b (by simpa using N))]
mutual
section
variable {b:jE}{q:kD}{e:kG}{s:p}{args:g M}
noncomputable def KN ay:aB a8->ar
 |none=> .T lq
 |l h=> .D (.num h.r) j
theorem ak_ bW bT ab aT dO dP:mS (AO aP b) b q e (KN e.o Q):=by
 have lO:=i.lN (d:=0) rfl;rw[aa4];cases Q with
 |none=>exact L i f0
 |l h=>refine L i f1;cases f;exact A f2 ⟨q,by rw[g.aq];rfl,X.as t w⟩
theorem alc bW cu dm ab aT dO(ak:bB e.o m aE f):mS (yv aP b) b q e (.D (.num aE.r) e.o):=by
 have lO:=i.lN (d:=0) rfl;show F _ _ _;rw[aa8];refine L i (ly fl rfl ?_);cases d1:m.mj with
 |false=>
  induction ak with
  |stop _=>exact ⟨q,rfl,X.b6 t⟩
  |next=>cases d1
 |true=>exact L i (mu (L1 t sm lO ak λn c w G N=>A (KD (d:=0) aV rfl rfl) (A f2 ⟨q,by rw[g.aq,oq,g.aq];rfl,X.as t w⟩)))
noncomputable def uF ay dA(bl:g M->g M):aB a8->ar
 |none=> .T lq
 |l h=> .D (nk j m f3).2 (nk j m f3).1
noncomputable def yC ay:Prop:=∀h,e0∈j.jH->∀u∈h,aR u
theorem xd aK(b0:yC j) bW aL(a:lB j m (l h)):bH j m= .str->∀u∈h,aR u:=by
 intro K;cases a with
 |@ag x k h a=>
  cases k with
  |false=>rw[uV a] at K;cases K
  |true=>exact b0 h fa
 |@a3 _ aE C a=>clear a;cases m<;>first|cases K|cases C
theorem SJ bW bT ab aT f4 eJ(i:aA b q e s (m::H)) dP:mS (yu aP b) b q e (uF e.o m g.bL Q):=by
 have lO:=i.lN (d:=0) rfl;rw[aa7];cases Q with
 |none=>exact L i f5
 |l h=>refine L i (L i f1);cases f;have c1:h.r<=1000000:=p.aj f6 aV;rw[we N (by rw[g.aq];exact c1),<-g.map_reverse];exact pK (Pn (X.as t (w.af bY)) lO cv dK cO (by rw[g.d6];exact c1) (λv C=>am.D t.D v (g.d_.mp C)) λK u an=>xd b0 am K u (g.d_.mp an))
theorem I_ aK bg br{us h:g M}(a:j.jH[x]?=l (k,us)):nk j aW h=(j.lE bV,.ag j.jH.r):=by
 unfold nk;cases k with
 |true=>rw[uU a]
 |false=>rw[uV a]
theorem ak2 bW bT ab aT f4 dO dP:mS (AL aP b) b q e f7:=by
 have lO:=i.lN (d:=0) rfl;rw[aa3];have no:nH 104 (bH e.o m)=false->mS (ah dx (λw0=>ah (j8 .d3 [w0,(.co 104)]) λr1=>jY r1 λkJ=>(match kJ with|true=>MR a2|false=>MS a2)) b) b q e f7:=λK=>by
  cases Q with
  |none=>exact L i (ly cM K (L i f5))
  |l h=>refine L i (ly cM K (L i (L i (mu (qW t sm lO am (λts' n c f w aJ N=>?_) nofun)))));cases f;exact pK (Pn f8 lO N (t.ax aJ) aJ (p.aj f6 aV) (am.D t.D) (xd b0 am))
 induction am with
 |a3 C _=>exact no (vQ C).2
 |aC C _ _=>exact no (vQ C).2
 |@ag x k h Y=>
  cases k with
  |false=>exact no (by rw[uV Y];rfl)
  |true=>have p1:=l8 b bQ;have W:=Gg (X.as t p1) (k:=true) (t.D.s _ cc) cv cC bv;show mS _ _ _ _ (.D (nk e.o aW h).2 (nk e.o aW h).1);rw[I_ Y];show F _ _ _;exact L i (ly (aM:=true) cM (by rw[uU Y];rfl) (L i (A ce (A (Cj cd (by rw[g.aq];exact p.aj fK aV)) (L (i.as p1) (A (aiT (t.as p1) Y) (A (amc _ _ _) ⟨_,bk Z.aO (lF _ _ _).symm,W⟩)))))))
inductive aQ(j:jU):g M->g bN->Prop where
 |ae:aQ j [] []
 |aI {v:M} {Q:aB a8} {vs:g M} {U:g bN} (a:lB j v Q) (I:aQ j vs U):aQ j (v::vs) (Q::U)
noncomputable def lu:g bN->aB a8
 |[]=>l []
 |l h::H=>(lu H).ao ef
 |none::_=>none
theorem aQ.b4 aK bO bd dd:U.r=vs.r:=by
 induction a with
 |ae=>rfl
 |aI _ _ ih=>simp [ih]
theorem aQ.ba aK bO bd dd:∀cD aD,vs[d]?=l v->∃Q,U[d]?=l Q/\lB j v Q:=by
 induction a with
 |ae=>intro d v a;cases a
 |aI a I ih=>
  intro d v C;cases d with
  |dc=>cases C;exact ⟨_,rfl,a⟩
  |db d=>exact ih C
theorem aQ.dW aK(i:sS j) dh bO(a:∀v∈vs,jP j v):∃U,aQ j vs U:=by
 induction vs with
 |ae=>exact ⟨[],.ae⟩
 |aI v vs ih=>exact (lB.dW i D (a v bS)).bE λQ am=>(ih λu an=>a u (.tail _ an)).bE λU hos=>⟨Q::U,.aI am hos⟩
theorem Po bd(a:none∈U):lu U=none:=by
 induction U with
 |ae=>cases a
 |aI Q U ih=>
  cases Q with
  |none=>rfl
  |l h=>
   rcases g.mem_cons.mp a with a|a
   ·cases a
   ·show (lu U).ao _=none;rw[ih a];rfl
theorem asf{s V:g bN}{m z:g M}(aN:lu s=l m)(aY:lu V=l z):lu dr=l (m++z):=by
 induction s generalizing m with
 |ae=>cases aN;exact aY
 |aI Q s ih=>
  cases Q with
  |none=>cases aN
  |l h=>
   show (lu dr).ao _=_;have bZ:(lu s).ao ef=l m:=aN;cases a:lu s with
   |none=>rw[a] at bZ;cases bZ
   |l cr=>rw[a] at bZ;clear aN;cases bZ;rw[ih a];simp
noncomputable def MF ay:aB a8->ar
 |none=> .T lq
 |l h=> .D fS (j.lE eZ)
theorem ae5{s V n:p}(a:s+1000*(n+1)<=100000)(aY:V<=1000):s+V+1000*n<=100000/\s+V<=1000000/\((s+V:p):S)<=1048576:=by have d:s+V+1000*n<=100000:=p.aj (p.aj (p.le_of_eq ((p.add_assoc _ _ _).af (bk (s+·) (p.dQ V _)))) (p.cn (p.cn aY _) s)) a;have O:=p.aj (p.le_add_right _ _) d;exact ⟨d,p.aj O aV,S.c9.a6 (p.aj O (p.c7 rfl:100000<=1048576))⟩
theorem Jb eg bd:lu (l us::U)=(lu U).ao (us++·):=rfl
theorem aeD aK dh bO bd dd:∀aL,lu U=l h->∀v∈h,jP j v:=by
 induction a with
 |ae=>exact λf v C=>by cases f;exact aH C g.not_mem_nil
 |@aI v Q vs U a I ih=>
  intro h f u an;cases Q with
  |none=>cases f
  |l us=>obtain ⟨cr,d2,f⟩:=aB.map_eq_some_iff.mp (Jb.symm.af f);rw[<-f] at an;exact (g.mem_append.mp an).bE (a.D D u) (ih d2 u)
theorem aqU ab aT bw bh{k:g M}{Lq:g bN}(av:aQ e.o k Lq):∀aL eK dj,(∀v∈k,jP e.o v)->b<+:c->c[b.r]?=l bQ->h.r+1000*k.r<=100000->
  (∀us pl c,lu Lq=l us->b<+:c->c[b.r]?=l eh->F (D0 ei c) E B)->(lu Lq=none->∀f c,oO b lq f c->B f c)->
  F (ah (cZ (λc=>c[s]?=l e9) Iv (k.ao aG) ei) (kY D0 bK) c) E B:=by
 induction av with
 |ae=>intro h pl c _ w N _ a _;exact tH (i.as w).aX (a [] pl c rfl w (by rw[g.append_nil];exact N))
 |@aI v Q vs os' C I ih=>
  intro h pl c TS w N ad a P;refine tG (i.as w).aX ?_;rw[abU];refine A (Cz N) (mu (qW cP sm (TS v bS) C (λus n jJ f p' n2 zJ=>?_) λf m jJ a0=>P (by rw[f];rfl) m jJ ej));rw[f] at a P C;obtain ⟨l1,l2,l3⟩:=ae5 ad (C.b4 sm);have hl':=kZ p' N;have c4:(jJ.b7 b.r (.aw (h.ao aG++us.ao aG)))[b.r]?=l eh:=by rw[qV hl',g.d7]
  refine A (BO hl' zJ (p.ne_of_gt (p.lt_of_lt_of_le (oK N) n2)) (by rw[g.aq,g.aq];exact l2)) (A (mE c4) (A (K5 _ (by rw[g.aq,g.bI];exact l3)) (ih (λv C=>TS v dl) (v8 cN bv _) c4 (by rw[g.bI];exact l1) (λzs pl lT Q3 p2 bm=>a (us++zs) pl lT ek p2 (by rw[<-g.dS];exact bm)) λQ3=>P ek)))
theorem ale bd ab aT bw(N:args.r<=100)(am:aQ e.o args U):mS el b q e (MF e.o em):=by
 have pre:∀bh,(∀h c,lu U=l h->b<+:c->c[b.r]?=l bQ->F (ah (k9 125 sU [.aO b.r]) eS c) E B)->en->F el E B:=λa P=>by rw[aa9];exact kL eo λc w dZ=>A (nX (i.as w).aX) (aqU t sm i am (h:=[]) i.D w dZ (by rw[g.length_nil,p.zero_add];exact p.c8 1000 N) (λus pl c f p2 bm=>by rw[abT];exact a us c f p2 bm) P)
 cases a:lu U with
 |none=>exact pre (λh c f=>by rw[a] at f;cases f) λG G G a0=>a0
 |l h=>
  refine pre (λts' c f w P=>?_) λf=>by rw[a] at f;cases f
  rw[a] at f;cases f;exact A dN ⟨_,bk Z.aO (lF _ _ _).symm,Gg f8 (k:=false) (aeD t.D am a) P cC bv⟩
noncomputable def Jd ay bq:aB a8->ar
 |none=> .T lq
 |l h=> .D (aa j I h).2 (aa j I h).1
theorem UZ{n d:p} de:n -d=n -df+1:=(p.succ_pred_eq_of_pos (p.sub_pos_of_lt ad)).symm
theorem aeQ ep{s n d O:p} de(a5:0<=J)(aJ:J<=(200*eq:p)) er es:0<=J+s/\J+s<=eu/\J+s<=1048576:=by have au:J+s<=eu:=UZ ad▸S.dR aJ (S.c9.a6 aN);exact ⟨S.add_nonneg a5 (S.cq s),au,S.aj au (S.c9.a6 (p.aj (p.c8 200 (p.ed n d)) (p.aj (p.aj (p.d4 _ O) N) (p.c7 rfl:1000<=1048576))))⟩
theorem aeR{s V n d O:p} de(aY:V<=200*eq) er es:s+V<=200*et/\O+V<=1000:=
 ⟨p.dQ s V▸UZ ad▸p.dR aY aN,p.aj (p.cn (p.aj aY ev) O) N⟩
theorem aeM bO bs bd ab aT ex ey ez eA(Ll:jP e.o I) bh(a:∀h y c,lu U=l h->X b q e c y bR->E cb c)(P:lu U=none->∀f c,oO b lq f c->B f c):
  ∀(d:p) aL ep di {pl pt:aB Z} dj,d<=vs.r->lu (U.cX d)=l h->h.r<=200*eB->0<=J->J<=(200*eB:p)->b<+:c->X b q e c y bR->
  F (ah (cZ eL DW (a4 d) (Bb .none a2 cb (.ai J) pl pt)) (kY Il bK) c) E B:=by
 intro d;induction d with
 |dc=>intro h J y pl pt c _ f _ _ _ _ R;refine tH trivial ?_;rw[abN];exact a h y c f R
 |db d ih=>
  intro h J y pl pt c K f aS m0 m1 w R;refine tG (m:= .ai dw) (H:=a4 d) trivial ?_;rw[abO];have bA:d<vs.r:=K;have le:=made_le e.o I h;obtain ⟨Q,pe,ho2⟩:=am.ba (g.bb bA);have BX:lB (aa e.o I h).1 vs[d] Q:=ho2.ext (SW _ _ _) (by rw[vU];exact g.da _);have aoW:Small (aa e.o I h).1:=⟨by rw[KY];exact p.aj (p.cn (p.aj aS ev) _) N,by rw[vU];exact sm.n,by rw[vU];exact sm.s⟩;have lO:jP e.o vs[d]:=i.D _ (g.mem_append_left _ (g.getElem_mem bA));have hlt:=nJ pe;have c2:U.cX d=Q::U.cX df:=by rw[g.drop_eq_getElem_cons hlt];rw[g.bb hlt] at pe;rw[aB.l.b3 pe]
  refine A ((i.b8 R le).ba (d:=d) (v:=vs[d]) (by rw[g.dY bA,g.bb bA]) rfl) (mu (qW R.bo aoW (lO.le le) BX (λus n jJ xj p' ad zJ=>?_) λxj m jJ a0=>P (Po eE) m jJ ej));rw[xj] at c2 BX;have Km:=c5 us eE;obtain ⟨l1,l2,l3⟩:=aeQ K m0 m1 Km N;obtain ⟨l4,asN⟩:=aeR K aS Km N;refine A (mE zJ) (A (yU _ _ _) ?_);rw[g.aq];refine A (K5 _ l3) (mu (KS (R.more p') zJ (R.bo.ax ad) (p.aj Km aV) (BX.D R.bo.D) (xG Ll h) λaex lT p2 s2=>?_));rw[<-alC] at s2⊢;exact ih (p.le_of_lt bA) (by rw[c2,Jb,f];rfl) (by rw[g.bI];exact l4) l1 l2 (w.af (p'.af p2)) s2
theorem akZ bO bs bd ab aT ex ey ez eA:
  mS eF b q e (Jd e.o I em):=by
 have Ll:jP e.o I:=i.D I (g.mem_append_right _ bS);have pre:∀bh,(∀h y c,lu U=l h->X b q e c y bR->E cb c)->en->F eF E B:=λa P=>by rw[aa1];refine A eG (bi fT (aM:=true) (bD (by rw[g.aq,g.bI];exact S.c_.a6 eH)) (A (item_last (v:=lv q I) i.aX (by rw[g.d7];exact g.getLast?_concat)) (A eG eN)));rw[show (((g.ao aG ew).r:p):S) -2=((vs.r:p):S) -1 by rw[g.aq,g.bI];exact S.add_sub_add_right vs.r 1 1];exact A (Un _ (p.aj (p.le_mul_of_pos_left _ eH) (p.aj (p.d4 _ _) (p.aj N aV)))) (aeM t sm i N am c5 Ll a P vs.r bv (by rw[<-am.b4,g.drop_length];rfl) eo (S.d5 _) (S.cq _) eO cF)
 cases a:lu U with
 |none=>exact pre (λh y c f=>by rw[a] at f;cases f) λG G G a0=>a0
 |l h=>exact pre (λts' y c f R=>by rw[a] at f;cases f;exact ⟨y,rfl,R⟩) λf=>by rw[a] at f;cases f
end
end
mutual
example _ Nat h W l k e t ζ n q List a w nil i c b p jS x u v f m V cell g σ T arr I A hv le_trans length h' L d vs P trans kW ad cons lA cs z τ hx B r some _ _ _ _ _ _ _ _ _ _ _ ht hw ac j hl hk hu hT Bool congrArg e1 elim hi hm its len hp map(c:jU)«at» Int absurd hc hs E cells hn Q toNat Res bo(E:Inv B Q m)add_le_add el sum y M hb i1 if_pos{v:y}Chain g1 i2 if_neg add_assoc le_of_eq le_refl mul_le_mul_left(b:s c v g)[C+1]g2 hV ha hq hy inl inv mem_cons mpr mul_assoc mul_comm nodes s[.R g d][st g u+1]hi' casesOn e2 htL ind isA[a.aV _]add_comm h2 hA hh inr mem_cons_self or_eq_true{aB ay:jD->jE->Prop}{g:kT}{g u:kT}[a.bV _ _][by decide]an and_eq_true «by» base ca decide_eq_false det hj ho mul_add pow_add reverse{o:a}(w:y)[.D o]σ' Args Step add_le_add_left count decide_eq_true ft_ grow hd he le_add_right one resolve_left sig zero(r:k a)[.z o]{c:jU}[.num o][(l,q)][AQ [.none,.obj l] B][aa g]{d:k α}[by omega]True U c1 cc h3 mem_append mem_cons_of_mem motive_2 mul_one succ succ_le_succ units zero_le[2+i][7*e][2+(l+aK)][lv Q u]{T:k a}[rH E mH][yt [.none,.obj l] B]{t:y}[(j,ts)][v::M][λh=>⟨⟩][λh h h h h=>⟨⟩]{d:S}(sm:Small m.K)[k.ce _ ag]{ts:k y}{v m:y}(J:s c m u)[(· +1)]{α:Type}[mF aq](aH:Ob c N)[xH (nJ b) rfl]add_right_comm close filter getElem?_eq_getElem hM hW hX i3 le_mul_of_pos_left le_of_lt le_of_succ_le_succ list motive_1 mul_le_mul mul_mul_mul_comm not_le o one_mul refl step succ_pos v_eq zero_add(i:a)[9^6*8^i][6*e][7*e+7][a.pow_pos bv][Oh c N][mF am][(.ok false,B)][a.not_succ_le_zero _][rE E am]{f:y}[⟨rfl,rfl⟩]{x:au}[yK x1 x2 x3 (.int x) co]{e:au}(F:bM B Q m l [t])[λj=>av j af][.z i ta tb][.D i][.D i j d]«do»[.R u e]{M:k y}(b:P c M d)[λh h h=>⟨⟩][F.lN (e:=0) rfl][∀i∈g.T,W'.az[i]?=c.az[i]?][v.mj=true\/v.bi=true]{u:kT}{w A:α->a}[k.ce _ G](W:t∈d)[λf=>?_][w t](b:a0 c v=C+1)[a.d0 C][if b<=C then 1 else 0](X:AB c N C t f A)[qs d e+2][a.c2 1][2*f][a.dQ j]D Option c2 cd count_cons_self e3 eq_of_beq_eq_true exists_eq_add_of_le g3 getElem?_set_ne getElem_map h4 hz kernel le_antisymm le_of_add_le_add_left le_succ length_map map_map max_le mem_filter mul_le_mul_right mul_right_comm noConfusion not_lt not_lt_zero toNat_of_nonpos[9^c7*8^p][6*e+6][p+i][9^eb*8^59][two b][e+1][l+aK][(nx G ab ah).2 d][pK b]{u f:y}{j:k a}(a2:aP m.K u j f)[Ca (B9 u Q) _][o::j][nJ am][lv Q sl][Be v ep co none none none][bnd (lG A7 IB eq) (kY IC ret) B][(by rw[OG];exact (jX cq).O (by rw[ax];rfl))](G:jP m.K v)(aw:aP m.K v T f)[[lv Q v]]{u:y}[EU _ _ _][low an][.stop ax][.a4 (au.d_ an).symm][ly (B8 E dt) rfl ei][B8 E lO][Kz E lO](bm:t.bi=false)[λj=>av af j][.obj l][[.none,.obj l]][.z i][kH l p&&kH q L][(j==Y)&&mW d e][if kH g u=true then qs d e else 0][bg d][num _][o e]{v:k y}{g:S}(b:P c v g)[⟨_,_,rfl,l,q⟩][dL.Z.inj b][λh b=>b.a5.symm][J.symm.O b][⟨_,.n⟩][.bY lq](F:sS c)(ok:oA c)[λh=> .n][k.mem_append_left _ aA][k.mem_append_right _ aA][dv->v∈ms][λh h b=>nomatch b][.a4 rfl][e e5](F:bM B Q m l [.D o]){l q:a}{i:a}[.z i l q]{j:ai}[a.beq_refl i](f:kH g u=true)(ne:v≠m)[J.ou.1▸rfl]{l:a}(hle:∀v∈d,A v<=w v)(b:A t+l<=w t)[hle v k.bp]{t aJ:α}(ne:t≠aJ)(a3:aJ∈d)[A aJ][A v][a.le_add_left _ _](v:y)(N:k y)[k.mem_map.a7 ⟨o,k.mem_range.a7 b,rfl⟩](b:a)[a.not_succ_le_self C](G:v∈a_ c)[a.le_of_ble_eq_true rfl][λh h=>Kp dD][NR b](C:a)(d:k a)[.z x p L][a.aW 2 X.ye][∀u∈M,lz u=true->u∈N][∀u∈ws,lz u=true->u∈N][mW d e=true->t*dG<=A+2*f*d.ap][a.aU ((a.bk _ _).O (a.aT _ _ _))][λb=>nomatch b][a.H (a.aU (a.cg t)) (a.H X.ye (a.cQ f dH))][A+f*aK][f*aK][G.c3.O (j.O ab.c3.symm)][aj _ j][a.cS ah][xH (nJ J) rfl][mF b][mF J][aZ d][a.bk 1 _]a1 a2 b2 ex h1 hP:True:=x
theorem U0 c5:((i+1:a):au) -1=i:=au.add_sub_cancel i 1
noncomputable def mX as bJ:k a->jU×y
 |[]=>(c,w)
 |p::Y=>mX (c.lC p (kq c p,w)) (.z p) Y
theorem aqh(p:a) b0:∀as bJ,mX c w (r++[p])=((mX c w r).1.lC p (kq (mX c w r).1 p,(mX c w r).2),.z p):=by
 induction r with
 |n=>exact λh h=>rfl
 |R L r ih=>exact λc w=>ih _ _
theorem Ve bI b0:∀as bJ,o∉r->(mX c w r).1.az[o]?=c.az[o]?:=by
 induction r with
 |n=>exact λh h h=>rfl
 |R L r ih=>exact λc w b=>(ih (c.lC L (kq c L,w)) (.z L) λj=>b (.tail _ j)).O (k.dT λj:L=o=>b (j▸ .head _))
theorem Vd:∀b0 as bJ,c.nW (mX c w r).1
 |[],c,w=> .c0 _
 |L::r,c,w=>(c.uW _ _).O (Vd r _ _)
theorem Mi b0:∀as bJ,(mX c w r).1.az.I=c.az.I:=by
 induction r with
 |n=>exact λh h=>rfl
 |R L r ih=>exact λc w=>(ih _ _).O k.length_set
theorem Gm:∀b0 as bJ,(mX c w r).1.jH=c.jH
 |[],c,w=>rfl
 |L::r,c,w=>Gm r _ _
theorem aP.asT b2 aO(b:aP c v [] .n):v= .n:=by cases b;rfl
mutual
section
variable {B:jE}{Q:kD}{m:kG}{l:a}{args:k y}
theorem Tv cs br aF dj eE(b:aD (MT .none eG B) aB ay):aD b5 aB ay:=by have lO:=F.lN (e:=0) rfl;rw[GW];exact kj F (ly (qy E lO 125 rfl) (vQ bm).1 (kj F (ly (qy E lO 104 rfl) (vQ bm).2 b)))
theorem ams cs aF cy dj(bE:lB m.K t none):mS b5 B Q m eX:=by
 have bm:t.bi=false:=by
  cases bE with
  |bad G _ _=>exact G
 show aD _ _ _;exact Tv E F bm (kj F (mu (qW E sm dt bE nofun λh h h b=>b)))
theorem amw bI cA aF cy e7(aq:m.K.jH[o]?=Z (false,ts)):mS b5 B Q m (.ok bK (m.K.n6 o (false,ts.bH))):=by show aD _ _ _;rw[GW];refine kj F (ly (p:=true) (KA E aq 125 rfl) rfl (kj F (aE (xu E aq) ?_)));rw[we (E.ll aq) (by rw[k.d1];exact a.H (sm.l _ cF) fv),<-k.map_reverse];have p1:=l8 B (.cT (ts.bH.ar (lv Q)));have st:=UW (bN.bS E p1) aq (us:=ts.bH) (λv G=>E.ok.l _ cF v (k.mem_reverse.mp G)) (mO _ _) (E.off bj) bj;exact kj (F.bS p1) (aE (UI (E.bS p1) aq) (kj (F.c1 st (m.K.tR _ _)) ⟨_,rfl,st⟩))
theorem amv bI cA aF cy(dN:yC m.K) e7(aq:m.K.jH[o]?=Z (true,ts)):mS b5 B Q m (.ok (.D m.K.jH.I) (m.K.lE (true,ts.bH))):=by have b:mS _ _ _ _ (.ok (nk m.K bK ts.bH).2 (nk m.K bK ts.bH).1):=SJ E sm dN F (.D aq);rw[I_ aq] at b;show aD _ _ _;rw[GW];exact kj F (ly (p:=false) (B_ E aq 125 rfl) rfl (kj F (ly (p:=true) (B_ E aq 104 rfl) rfl ei)))
theorem amu{x1 x2:jD} br aF ej ek el(bU:f= .n):∀b2 {w:y} {pl:dL jD} {V:jE},j.Nodup->(∀o∈j,c.az[o]?=m.K.az[o]?)->m.K.nW c->jP m.K w->bN B Q m V Q (m.qI c)->(∀V,bN B Q m V Q (m.qI (mX c w j).1)->aB (lv Q (mX c w j).2) V)->
  aD (bnd (lG Ir Iq (Ef x1 x2 (lv Q w) co pl)) (kY Iu ret) V) aB ay:=by
 induction a2 with
 |@stop u ax=>intro c w pl V _ _ _ _ ba b;refine pT (bL:=V) (by rw[OD,jX em,bQ bU];rfl) ?_;rw[abS];exact b V ba
 |@next o q p j f am g ih=>
  intro c w pl V nd cN le amR ba b;refine qJ (bL:=V) (by rw[OD,jX (Ca (B9 b1 Q) _),bB (λj:y.z o= .n=>y.d7 j)];rfl) ?_;rw[abR];have bd:c.az[o]?=Z (q,p):=(cN o (.head _)).O am;have amQ:=E.ok.p _ da;obtain ⟨n1,n2⟩:=k.nodup_cons.mp nd;have ak:mX c w en=mX (c.lC o (q,w)) b1 j:=by show mX (c.lC o (kq c o,w)) _ _=_;rw[m8 bd]
  rw[ak] at b;exact aE (rE ba.a5 bd) (aE (LS ba.a5 bd _) (ih bU (w:= .z o) n2 (λad bD=>(k.dT (λU:o=ad=>n1 (U▸bD))).O (cN ad (.tail _ bD))) (le.O (c.uW _ _)) eo (L6 ba (nJ bd) (amQ.1.le le) (amR.le le)) b))
theorem amt cs cp aF cy dj eE(aw:aP m.K t T .n):mS b5 B Q m (.ok (mX m.K .n T).2 (mX m.K .n T).1):=by show aD _ _ _;exact Tv E F bm (kj F (mu (qW E sm dt (.chain bm aw) (λts i V h r h h=>kj (F.bS r) (amu E aw rfl (w:= .n) aw.nodup (λh h=>rfl) (.c0 _) trivial (bN.bS E r) λV ba=>⟨Q,rfl,ba⟩)) nofun)))
theorem akb aF{l q f e':y}{r j:k a}(a1:jP m.K l)(aL:jP m.K q)(g:aP m.K l r f)(t':aP m.K q j e')(b:j.I<r.I):qn (lv Q l) (lv Q q)=Z false:=by
 have ne:l≠q:=λU=>av (aj k.I ((U▸g).bC t').1) (a.ne_of_gt b);induction g with
 |stop=>exact av b (a.d9 _)
 |next=>rw[zM E a1 aL λU=>s6.d7 U.1,bB ne]
theorem an8 aF{v:jD} br(b:aB .none B):∀c5 {u sl f e':y} {j kJ:k a},j.I<=i->j.I<=kJ.I->jP m.K u->jP m.K sl->aP m.K u j f->aP m.K sl kJ e'->
  aD er aB ay:=by
 have stop:∀{u sl:y},A7 eq B=Z db->aD er aB ay:=λp=>pT p (by rw[abY];exact b);intro i;induction i with
 |bZ=>
  intro u sl f e' j kJ aA _ mH _ a2 _;induction a2 with
  |stop ax=>exact stop es
  |next=>exact av aA dc
 |ch i ih=>
  intro u sl f e' j kJ aA ae mH asZ a2 hq2;induction a2 with
  |stop ax=>exact stop es
  |@next o q p j f am g=>
   have Cw:=(E.ok.p _ da).2;have ca:∀{U:ai},p.mj=U->A7 (Be v ep (lv Q b1) none none none) B=Z (.ok U,B):=λf=>by rw[OG];exact (jX cq).O ((jX dd).O ((jX (rH E Cw)).O (by rw[f];rfl)))
   induction g with
   |stop ax=>exact stop (ca ax)
   |@next i' b' c' j f bd g=>
    induction hq2 with
    |stop=>exact av ae dc
    |@next aR fU dM kJ e' hi2 t2=>have TQ:=(E.ok.p _ (mF bd)).2;have TR:=(E.ok.p _ (mF hi2)).2;have hl':j.I<kJ.I:=a.cS ae;refine qJ (ca rfl) ?_;rw[abX];refine aE (rE E hi2) (aE dd (aE (rE E bd) (aE (xD (akb E TR TQ t2 g hl') _) ?_)));exact ih (a.le_of_succ_le (a.cS aA)) (a.cR hl') TQ TR g t2
theorem an9 aF aO et cp de eu:AX ev B=Z (.ok .none,B):=by
 have:aD (AX ev B) (λY bL=>Y= .none/\bL=B) (λh h=>False):=by rw[abf];exact an8 E df T.I bj bj G G aw aw
 obtain ⟨Y,bL,ak,bf,dP⟩:=this.some_of;rw[ak,bf,dP]
theorem af3 aF bI{q p:y}(am:m.K.az[o]?=Z (q,p)):Dc [lv Q b1] B=Z (.ok (lv Q p),B):=by have ok:jP m.K b1:=nJ am;rw[NT];exact (jX (rH E ok)).O ((jX (S_ E ok rfl)).O ((jX dd).O rfl))
theorem an5 aF{x1 x2 x3:jD} br ej ek el:∀dg,jP m.K u->(∀r q' u',j=r++q'->aP m.K u' q' f->jP m.K u'->(r.I=x.aC\/(r.I<=x.aC/\q'=[]/\f= .n))->aB (lv Q u') B)->(j.I<x.aC->f≠ .n->∀t V,oO B lq t V->ay t V)->
  aD (bnd (lG wB A6 dh) (kY Iz ret) B) aB ay:=by
 have low:∀ew dg,x<=0->wB dh B=Z db:=λb=>by rw[OF,jX ex,bB (au.d8.a7 b)];rfl
 have qG:∀ew dg,0<x->wB dh B=Z (.ok (!decide (u= .n)),B):=λ{u x} b=>by rw[OF,jX ex,bQ b];exact (jX em).O rfl
 induction a2 with
 |@stop u ax=>
  intro x mH b A;by_cases an:x<=0
  ·refine pT ey ?_;rw[IA];exact b [] [] u rfl ez mH eA
  ·replace an:=au.cX.mp an;by_cases ag:u= .n
   ·refine pT ((qG an).O (by rw[bQ ag];rfl)) ?_;rw[IA];exact b [] [] u rfl ez mH (.bo ⟨a.ck _,rfl,ag⟩)
   ·refine qJ ((qG an).O (by rw[bB ag];rfl)) ?_;rw[OE];refine mu ?_;rw[NT];exact ly cq ax (mu (K6 E mH (by rw[ax,bB ag];rfl) (A (au.pos_iff_toNat_pos.mp an) ag)))
 |@next o q p j f am g ih=>
  intro x mH b A;by_cases an:x<=0
  ·refine pT ey ?_;rw[IA];exact b [] en _ rfl (.next am g) mH eA
  ·replace an:=au.cX.mp an;obtain ⟨i,f⟩:=au.eq_succ_of_zero_lt an;rw[f] at b A an⊢;refine qJ ((qG an).O rfl) ?_;rw[OE];refine aE (af3 E am) (aE (Ak _ _ _) ?_);rw[show (i:au)+1 -1=i from U0 i];exact ih (x:=i) (E.ok.p _ da).2 (λr q' u' ak t' ok' U=>b (o::r) q' u' (aj _ ak) t' ok' (U.imp (aj a.ch) λU=>⟨a.ci U.1,U.2⟩)) λU=>A (a.succ_lt_succ U)
theorem an4 aF aO et cp de eu di br(b:∀r j u,T=r++j->aP m.K u j f->jP m.K u->(r.I=e.aC\/(r.I<=e.aC/\j=[]/\f= .n))->aB co B)(A:T.I<e.aC->f≠ .n->∀t V,oO B lq t V->ay t V):aD (Di [.int e,lv Q v] B) aB ay:=by rw[abe];exact aE (an9 E G aw) (aE (show jN .IsNot .none .none B=Z db from rfl) (an5 E aw G b A))
noncomputable def p8 as(T:k a)(f:y)(e:au):Out:=
 if e<0 then .bY nC else match T[e.aC]? with
  |Z o=> .ok (kq c o) c
  |none=>if T.I<e.aC/\f≠ .n then .bY lq else .bY nC
theorem ak6 bI di aF(F:bM B Q m l [.D o,.num e]):mS cr B Q m (tw m.K bK e):=by
 have b:=SI E F;rw[GV];cases bE:tw m.K bK e with
 |ok v c=>rw[bE] at b;exact kj F eB
 |bY ba=>rw[bE] at b;exact kj F eB
theorem ak8{ad e:au} aF(F:bM B Q m l [.num ad,.num e]):mS cr B Q m eX:=by have lO:=F.lN (e:=0) rfl;show aD _ _ _;rw[GV];exact kj F (ly eC rfl (kj F (p7 eD rfl (kj F (yd λh h b=>b)))))
theorem ak7 cs di cp de aF(F:bM B Q m l [t,.num e])(W:t= .n\/t.mj=true)(aw:aP m.K t T f):mS cr B Q m (p8 m.K T f e):=by
 have lO:=F.lN (e:=0) rfl;have cO:t.bi=false/\(decide (t= .n)||t.mj)=true:=by
  cases t with
  |n=>exact df
  |z=>exact df
  |_=>exact W.al nofun nofun
 have bad:∀br,(∀f V,oO B nC f V->ay f V)->aD (GH eG B) aB ay:=λA=>kj F (nN F (LX fv A));have pre:∀br,(e<0->∀f V,oO B nC f V->ay f V)->(¬e<0->∀o,T[e.aC]?=Z o->aB (lv Q (kq m.K o)) B)->(¬e<0->T[e.aC]?=none->¬(T.I<e.aC/\f≠ .n)->∀f V,oO B nC f V->ay f V)->(T.I<e.aC->f≠ .n->∀t V,oO B lq t V->ay t V)->aD cr aB ay:=λ{aB ay} aQ b aZ dS=>by
  rw[GV];refine kj F (ly eC cO.1 (kj F (p7 eD cO.2 (nN F (aE (K7 E) (kj F (mu (an4 E lO aw (λr j u ak a2 mH U=>nN F (aE (Cm _ _ _) ?_)) dS))))))));by_cases af:e<0
  ·rw[bQ af];exact bad (aQ af)
  ·rw[bB af];have ae:T.I=r.I+j.I:=by rw[ak,k.length_append]
   refine p7 cq rfl ?_;induction a2 with
   |@stop u ax=>
    rw[ax];have ae:T.I=r.I:=ae;refine bad (aZ af (k.getElem?_eq_none ?_) λaJ=>?_)
    ·rw[ae];exact U.al a.aU λU=>U.1
    ·rw[ae] at aJ;exact U.al (λU=>a.ne_of_lt aJ.1 U) λU=>aJ.2 U.2.2
   |@next ad q p j f bD g=>
    have U:r.I=e.aC:=U.resolve_right λb=>cn_ b.2.1;have am:T[e.aC]?=Z ad:=by rw[ak,<-U,k.getElem?_append_right bj,a.sub_self];rfl
    have:=b af ad am;rw[m8 bD] at this;exact aE (xr E bD) this
 unfold p8;by_cases af:e<0
 ·rw[aN af];exact pre (λh h h L=>L) eF eF λj=>av j (by rw[au.d_ (au.cR af)];exact a.d9 _)
 ·rw[aS af];cases am:T[e.aC]? with
  |Z o=>exact pre dk (λh ad f=>by rw[am] at f;cases f;exact ⟨Q,rfl,bN.c0 E⟩) (λh f=>by rw[am] at f;cases f) λj=>av eo (a.d8.a7 (a.cR j))
  |none=>
   by_cases aL:T.I<e.aC/\f≠ .n
   ·dsimp only;rw[aN aL];exact pre dk (λh ad f=>by rw[am] at f;cases f) (λh h j=>av aL j) λh h h h L=>L
   ·dsimp only;rw[aS aL];exact pre dk (λh ad f=>by rw[am] at f;cases f) (λh h h h h L=>L) λl q=>av ⟨l,q⟩ aL
end
mutual
section
set_option genSizeOf false
set_option genInjectivity false
mutual
inductive kT where
 |num (o:au)
 |n
 |z (i:a) (l q:kT)
 |D (i:a) (j:ai) (d:S)
inductive S where
 |n
 |R (g:kT) (d:S)
end
noncomputable def kT.v:kT->y
 | .num o=> .num o
 | .n=> .n
 | .z i _ _=> .z i
 | .D i _ _=> .D i
noncomputable def S.ap:S->a
 | .n=>0
 | .R _ d=>d.ap+1
noncomputable def S.M:S->k y
 | .n=>[]
 | .R g d=>g.v::d.M
mutual
inductive s(c:jU):y->kT->Prop where
 |num {o:au}:s c b3 b3
 |n:s c .n .n
 |z {i:a} {l q:y} {ta tb:kT} (b:c.az[i]?=Z b4) (a1:s c l ta) (aL:s c q tb):s c eI dl
 |D {i:a} {j:ai} {ts:k y} {d:S} (b:c.jH[i]?=Z ct) (ae:P c ts d):s c dm dn
inductive P(c:jU):k y->S->Prop where
 |n:P c [] .n
 |R {v:y} {M:k y} {g:kT} {d:S} (b:s c v g) (ae:P c M d):P c cu bb
end
mutual
noncomputable def kH:kT->kT->ai
 | .z i l q,.z x p L=>a.beq i x||eJ
 | .D i j d,.D x Y e=>a.beq i x||eK
 | .num o,.num ad=>decide (o=ad)
 | .n,.n=>true
 |_,_=>false
noncomputable def mW:S->S->ai
 | .n,.n=>true
 | .R g d,.R u e=>kH g u&&mW d e
 |_,_=>false
end
mutual
noncomputable def st:kT->kT->a
 | .z i l q,.z x p L=>if i=x then 1 else 1+st l p+(if kH l p=true then st q L else 0)
 | .D i j d,.D x Y e=>if i=x then 1 else if j=false/\Y=false/\d.ap=e.ap then 1+qs d e else 1
 |_,_=>1
noncomputable def qs:S->S->a
 | .R g d,.R u e=>st g u+eL
 |_,_=>0
end
mutual
noncomputable def aa:kT->a
 | .num _=>0
 | .n=>0
 | .z _ l q=>max (aa l) (aa q)+1
 | .D _ _ d=>bg d+1
noncomputable def bg:S->a
 | .n=>0
 | .R g d=>max b6 eM
end
mutual
noncomputable def kT.T:kT->k a
 | .num _=>[]
 | .n=>[]
 | .z i l q=>i::(l.T++q.T)
 | .D _ _ d=>d.T
noncomputable def S.T:S->k a
 | .n=>[]
 | .R g d=>g.T++d.T
end
mutual
section
variable {c W':jU}
theorem s.bh{r:y->kT->Prop}{j:k y->S->Prop}(num:∀o,r b3 b3)(n:r .n .n)(z:∀{i l q ta tb},c.az[i]?=Z b4->s c l ta->s c q tb->r l ta->r q tb->r eI dl)
  (D:∀{i e ts d},c.jH[i]?=Z (e,ts)->P c ts d->j ts d->r dm (.D i e d))(ln:j [] .n)(lc:∀{v M g d},s c v g->P c M d->r v g->j M d->j cu bb):(∀{v g},s c v g->r v g)/\∀{M d},P c M d->j M d:=
 ⟨λb=>b.rec (cU:=λv g h=>r v g) (cf:=λv g h=>j v g) eN n z D ln lc,λb=>b.rec (cU:=λv g h=>r v g) (cf:=λv g h=>j v g) eN n z D ln lc⟩
noncomputable def abm as:y->kT->Prop
 | .num o,g=>g= .num o
 | .n,g=>g= .n
 | .z i,g=>∃l q ta tb,g= .z i ta tb/\c.az[i]?=Z b4/\s c l ta/\s c q tb
 | .D i,g=>∃j ts d,g= .D i j d/\c.jH[i]?=Z ct/\P c ts d
noncomputable def abl as:kT->y->Prop
 | .num o,v=>v= .num o
 | .n,v=>v= .n
 | .z i ta tb,v=>v= .z i/\∃l q,c.az[i]?=Z b4/\s c l ta/\s c q tb
 | .D i j d,v=>v= .D i/\∃ts,c.jH[i]?=Z ct/\P c ts d
noncomputable def abk as:k y->S->Prop
 |[],d=>d= .n
 |v::M,d=>∃g e,d= .R g e/\s c v g/\P c M e
noncomputable def abj as:S->k y->Prop
 | .n,d=>d=[]
 | .R g e,d=>∃v M,d=v::M/\s c v g/\P c M e
theorem S.vN{N:S->S->Prop}(i:∀e,N .n e)(p:∀g d,N bb .n)(cb:∀g d u e,N d e->N bb dp)(d:S):∀e,N d e:=
 S.rec (cU:=λh=>b9) (cf:=λd=>∀e,N d e) cv ⟨⟩ cw (λh h h h=>⟨⟩) i (λg d h o e=>S.be (cf:=λe=>N bb e) e (p g d) λu e=>cb g d u e eO) d
theorem P.vN{N:k y->k y->S->S->Prop}(i:∀{ws e},P c ws e->N [] ws .n e)(p:∀{v M g d},s c v g->P c M d->N cu [] bb .n)(cb:∀{v M g d m ws u e},s c v g->P c M d->s c m u->P c ws e->N M ws d e->N cu (m::ws) bb dp) dq cx dr:∀{ws e},P c ws e->N M ws d e:=
 (s.bh (r:=λh h=>b9) (j:=λM d=>∀{ws e},P c ws e->N M ws d e) cv ⟨⟩ cw ds i (λl q h o=>by
  intro ws e J;induction J using P.be with
  |n=>exact p l q
  |R a' b'=>exact cb l q a' b' (o b'))).2 b
theorem s.a5 aO bs aX:abm c v g:=by
 induction b using s.be with
 |num|n=>rfl
 |z b l q=>exact ⟨_,_,_,_,rfl,b,l,q⟩
 |D b d=>exact ⟨_,_,_,rfl,b,d⟩
theorem s.ou aO bs aX:abl c g v:=by
 induction b using s.be with
 |num|n=>rfl
 |z b l q=>exact ⟨rfl,_,_,b,l,q⟩
 |D b d=>exact ⟨rfl,_,b,d⟩
theorem P.a5 eP eQ eR:abk c v g:=by
 induction b using P.be with
 |n=>rfl
 |R l q=>exact eS
theorem P.ou eP eQ eR:abj c g v:=by
 induction b using P.be with
 |n=>rfl
 |R l q=>exact eS
theorem s.c3 aO bs aX:g.v=v:=by induction b using s.be<;>rfl
theorem Vg{α β:Type}{l p:α}{q L:β}(b:Z b4=Z (p,L)):l=p/\q=L:=⟨aj Prod.fst eT,aj Prod.snd eT⟩
theorem ag8:(∀{v g},s c v g->∀u,s c v u->g=u)/\∀{M d},P c M d->∀e,P c M e->d=e:=
 s.bh (λh h b=>b.a5.symm) eU (λb h h aM aR h J=>by
  obtain ⟨l,q,p,L,f,J,j1,j2⟩:=J.a5;have:=Vg eV;rw[f,aM p (this.1▸j1),aR L (this.2▸j2)]) (λb h o h J=>by
  obtain ⟨j,ts,d,f,J,ad⟩:=J.a5;have:=Vg eV;rw[f,this.1,o d (this.2▸ad)]) eU λh h aM aR h J=>by
  obtain ⟨l,q,f,j1,j2⟩:=J.a5;rw[f,aM l j1,aR q j2]
theorem s.bC aO bt aX(J:s c v u):g=u:=ag8.1 b u J
theorem P.amM cA(b:∀u∈ts,∃g,s c u g):∃d,P c ts d:=by
 induction ts with
 |n=>exact eW
 |R v M ih=>exact (b v k.bp).al λg aa=>(ih λu ag=>b u cz).al λd ae=>⟨_,.R aa ae⟩
theorem s.fV eY eZ aO(G:jP c v):∃g,s c v g:=by
 induction F v with
 |intro v _ ih=>
  cases v with
  |num o=>exact ⟨_,.num⟩
  |n=>exact eW
  |z i=>have aq:=k.cL G;have cY:=ok.p _ cF;exact (ih _ (.om aq) cY.1).al λta a1=>(ih _ (.pC aq) cY.2).al λtb aL=>⟨_,.z aq a1 aL⟩
  |D i=>have aq:=k.cL G;exact (P.amM λu ag=>ih u (.aH aq ag) (ok.l _ cF u ag)).al λd ae=>⟨_,.D aq ae⟩
theorem s.move(a1:W'.jH=c.jH) aO bs aX:du->s W' v g:=
 (s.bh (r:=λv g=>du->s W' v g) (j:=λv g=>du->P W' v g) (λh h=> .num) e0
  (λb h h o ad e=> .z ((e _ k.bp).O b) (o λi aA=>e i (k.ce _ e1)) (ad λi aA=>e i (k.ce _ e2)))
  (λb h o e=> .D ((aj (·[_]?) a1).O b) eO) e0 λh h o ad e=> .R (o λi aA=>e i e1) (ad λi aA=>e i e2)).1 b
noncomputable def Dk as(ms:k y):Prop:=∀v u,v∈ms->Ch c u v->(u.mj=true\/u.bi=true)->u∈ms
theorem s.ajO{ms:k y}(aw:Dk c ms) aO bs aX:e3->∀i∈g.T,y.z i∈ms:=
 (s.bh (r:=λv g=>e3->∀i∈g.T,y.z i∈ms) (j:=λM g=>(∀v∈M,dv->v∈ms)->∀i∈g.T,y.z i∈ms)
  (λh h h b=>nomatch b) e4 (λb h h o ad e x an=>(k.a6.mp an).al (λf=>f▸e e5) λan=>(k.cd.mp an).al (o (aw _ _ e6 (.om b)) x) (ad (aw _ _ e6 (.pC b)) x))
  (λb h o e=>o λu ag=>aw _ _ (e (.bo rfl)) (.aH b ag)) e4 λh h o ad e x an=>(k.cd.mp an).al (o (e _ k.bp) x) (ad (λu ag=>e u cz) x)).1 b
theorem PR e8{p:ai}(b:(a.beq l q||p)=true):l=q\/p=true:=(ai.bq _ _▸b).imp_left a.dQ
theorem FE{o:au} dw(b:kH b3 u=true):u= .num o:=by
 cases u with
 |num=>exact aj kT.num (of_decide_eq_true b).symm
 |_=>exact bR b
theorem FD dw(b:kH .n u=true):u= .n:=by
 cases u with
 |n=>rfl
 |_=>exact bR b
theorem FA e9{l q u:kT}(b:kH e_ u=true):∃x p L,u= .z x p L/\(i=x\/eJ=true):=by
 cases u with
 |z x p L=>exact ⟨x,p,L,rfl,PR b⟩
 |_=>exact bR b
theorem Fz e9 fa cx dw(b:kH dn u=true):∃x Y e,u= .D x Y e/\(i=x\/eK=true):=by
 cases u with
 |D x Y e=>exact ⟨x,Y,e,rfl,PR b⟩
 |_=>exact bR b
theorem akH{e:S}(b:mW .n e=true):e= .n:=match e,b with
 | .n,_=>rfl
theorem akG bs{d e:S}(b:mW bb e=true):∃u x,e= .R u x/\kH g u=true/\mW d x=true:=match e,b with
 | .R u x,b=>⟨u,x,rfl,ai.bx _ _▸b⟩
theorem akV(g:kT):kH g g=true:=match g with
 | .num o=>bQ rfl
 | .n=>rfl
 | .z i l q=>ai.bq _ _▸ .a4 fb
 | .D i j d=>ai.bq _ _▸ .a4 fb
theorem SH cB bt aX cC(f:v=m):kH g u=true:=b.bC (f▸J)▸akV g
theorem akR:(∀{v g},s c v g->∀m u,s c m u->kH g u=true->aa g=aa u)/\∀{M d},P c M d->∀ws e,P c ws e->mW d e=true->bg d=bg e:=
 s.bh (λh h h h b=>aj aa (FE b).symm) (λh h h b=>aj aa (FD b).symm) (λb l q o ad m u J f=>by
  obtain ⟨x,p,L,rfl,f⟩:=FA f;obtain ⟨_,_,_,bl,a',b'⟩:=J.ou;cases f with
  |a4 f=>clear J;subst f;exact aj aa (s.bC (.z b l q) (.z bl a' b'))
  |bo f=>have f:=ai.bx _ _▸f;show max _ _+1=max _ _+1;rw[o _ _ a' f.1,ad _ _ b' f.2]) (λb l o m u J f=>by
  obtain ⟨x,Y,e,rfl,f⟩:=Fz f;obtain ⟨_,_,bl,a'⟩:=J.ou;cases f with
  |a4 f=>clear J;subst f;exact aj aa (s.bC (.D b l) (.D bl a'))
  |bo f=>exact aj cD (o _ _ a' (ai.bx _ _▸f).2)) (λh h h b=>aj bg (akH b).symm) λh h o ad ws e J f=>by
  obtain ⟨u,x,rfl,ak,bf⟩:=akG f;obtain ⟨_,_,_,l,q⟩:=J.ou;show max _ _=max _ _;rw[o _ _ l ak,ad _ _ q bf]
theorem SG cB bt aX cC fc:aa g=aa u:=akR.1 b _ _ J f
theorem akT cB bt aX cC fc fd:dv/\(m.mj=true\/m.bi=true)/\0<aa g:=by
 induction b using s.be with
 |num=>cases FE f;exact av J.ou.symm ne
 |n=>cases FD f;exact av J.ou.symm ne
 |z=>obtain ⟨x,p,L,rfl,_⟩:=FA f;exact ⟨.a4 rfl,.a4 fe,a.c2 _⟩
 |D=>obtain ⟨x,p,L,rfl,_⟩:=Fz f;exact ⟨.bo rfl,.bo fe,a.c2 _⟩
theorem L2 bt(b:g.v=u.v):st g u=1:=by
 cases g with
 |z=>cases u with
  |z=>exact aN (y.z.inj b)
  |_=>exact nomatch b
 |D=>cases u with
  |D=>exact aN (y.D.inj b)
  |_=>exact nomatch b
 |_=>rfl
theorem P.ap dq cx dr:d.ap=M.I:=(s.bh (r:=λh h=>b9) (j:=λM d=>d.ap=M.I) cv ⟨⟩ cw ds rfl λh h h o=>aj cD o).2 b
end
end
theorem L8 cE dx b7(b:∀v∈d,A v<=w v):(d.ar A).aI<=(d.ar w).aI:=by
 induction d with
 |n=>exact a.aV _
 |R q Y ih=>exact a.aG (b q k.bp) (ih λv G=>b v dy)
theorem L_ cE dx ff{t:α} b7 fg dz fh:(d.ar A).aI+l<=(d.ar w).aI:=by
 induction d with
 |n=>exact nomatch W
 |R v d ih=>have ae:∀v∈d,A v<=w v:=λv G=>hle v dy;show A v+(d.ar A).aI+l<=w v+(d.ar w).aI;refine (k.a6.mp W).al dA λW=>a.aT _ _ l▸a.aG fi (ih ae W);exact a.cI _ _ l▸a.aG (f▸b) (L8 ae)
theorem apC cE dx e8 fj fk b7 fg dz fl fh(J:A aJ+q<=w aJ):(d.ar A).aI+l+q<=(d.ar w).aI:=by
 induction d with
 |n=>exact nomatch W
 |R v d ih=>
  have ae:∀v∈d,A v<=w v:=λv G=>hle v dy;show A v+(d.ar A).aI+l+q<=w v+(d.ar w).aI;refine (k.a6.mp W).al dA λW=>(k.a6.mp a3).al dA λa3=>?_
  ·rw[<-f,a.cI (A t),a.aT];exact a.aG b (L_ ae ((k.a6.mp a3).bX λe'=>ne (f.O e'.symm)) J)
  ·rw[<-f,a.aT fm,a.cI fm];exact a.aG J (L_ ae W b)
  ·rw[a.aT fn,a.aT fn];exact a.aG fi (ih ae W a3)
theorem alF ff{d:k a}(b:l∈d):l<=d.aI:=by
 induction d with
 |n=>exact nomatch b
 |R q Y ih=>exact (k.a6.mp b).al (λf=>f▸a.bV _ _) λb=>a.H (ih b) fo
theorem aql cE{w:α->a} fj fk(f:w t=w aJ) b7 dz fl:2<=(d.ar w).bP dB:=by
 have bW:∀b7 {U:α},U∈d->w U=w t->1<=(d.ar w).bP dB:=λdW j=>k.one_le_count_iff.a7 (j▸k.mem_map_of_mem dW);induction d with
 |n=>exact nomatch W
 |R v d ih=>
  show 2<=(w v::d.ar w).bP dB;refine (k.a6.mp W).al (λak=>?_) λW=>(k.a6.mp a3).al (λbf=>?_) λa3=>a.H (ih W a3) k.count_le_count_cons
  ·rw[<-ak,k.dO];exact a.ci (bW ((k.a6.mp a3).bX λe'=>ne (ak.O e'.symm)) f.symm)
  ·rw[<-bf,<-f,k.dO];exact a.ci (bW W rfl)
open Classical in
noncomputable def a0 as fp:a:=if b:∃g,s c v g then aa b.choose else 0
theorem zE b2 aO bs aX:a0 c v=aa g:=by have W:∃g,s c v g:=⟨g,b⟩;exact (dif_pos W).O (aj aa (W.choose_spec.bC b))
noncomputable def lz fp:ai:=v.mj||v.bi
theorem Ff aO(b:v.mj=true\/v.bi=true):lz v=true:=(ai.bq _ _).symm▸b
noncomputable def Oh as fq:k a:=(N.cK lz).ar (a0 c)
noncomputable def ao as:y->a
 | .z _=>1
 | .D o=>(c.jH[o]?).al 0 λr=>r.2.I
 |_=>0
theorem Fj b2 bI fa cA(b:c.jH[o]?=Z ct):ao c bK=ts.I:=by show (c.jH[o]?).al 0 _=_;rw[b];rfl
noncomputable def a_ as:k y:=(k.range c.az.I).ar .z++(k.range c.jH.I).ar .D
theorem xH b2 aO(b:jP c v)(W:lz v=true):v∈a_ c:=by
 cases v with
 |z o=>exact k.cd.a7 (.a4 fr)
 |D o=>exact k.cd.a7 (.bo fr)
 |num o=>exact nomatch W
 |n=>exact nomatch W
noncomputable def oG as fs:a:=((a_ c).ar λv=>if a0 c v<=b then ao c v else 0).aI
theorem Kp{l q p i:a}(b:q<=p):(if l<=q then i else 0)<=if l<=p then i else 0:=by
 by_cases f:l<=q
 ·rw[aN f,aN (a.H f b)];exact a.aV _
 ·rw[aS f];exact a.ck _
mutual
section
variable {c:jU}{N:k y}{v m:y}{g u:kT}{C e f l p aK t A:a}
theorem GL{g t':a}(b:g<=t'):oG c g<=oG c t':=L8 λh h=>Kp b
theorem NR dC:(if a0 c v<=C then ao c v else 0)+ao c v<=if a0 c v<=C+1 then ao c v else 0:=by rw[b,aS ft,aN bj,a.c4];exact a.aV _
theorem GN fu dC:oG c C+ao c v<=oG c aY:=L_ fw G fx
theorem aau fu(ab:m∈a_ c) fd dC(J:a0 c m=C+1):oG c C+ao c v+ao c m<=oG c aY:=apC ne fw G ab fx (NR J)
noncomputable def uI fy:k a->a
 |[]=>0
 |b::Y=>dE+uI C Y
theorem agc fz:uI C d+d.bP aY<=uI aY d:=by
 induction d with
 |n=>exact a.aV _
 |R b Y ih=>
  rw[k.count_cons];show dE+uI C Y+_<=(if b<=C+1 then 1 else 0)+uI aY Y;by_cases f:b=C+1
  ·rw[f,aS ft,aN bj,aN (beq_self_eq_true _)];rw[a.c4,a.bk 1];exact a.ci ih
  ·rw[aS λj=>f (eq_of_beq j),a.aT];exact a.aG (Kp dD) ih
theorem agb fz:uI C d<=d.I:=by
 induction d with
 |n=>exact a.aV _
 |R b Y ih=>show dE+uI C Y<=Y.I+1;rw[a.bk];exact a.aG ih (by split<;>decide)
theorem ape(b:aa g<=0):st g u=1:=by
 cases g with
 |num=>rfl
 |n=>rfl
 |_=>exact av b dc
noncomputable def Ob as fq:Prop:=(∀r∈c.az,lz r.1=true->r.1∈N)/\∀r∈c.jH,∀u∈r.2,lz u=true->u∈N
structure AB(c:jU)(N:k y)(C t f A:a):Prop where
 ye:t<=f
 JM:2*f<=A
 aH:∀{v m g u},s c v g->s c m u->kH g u=true->(lz v=true->v∈N)->(lz m=true->m∈N)->aa g<=C->t*bc<=2*f
 lk:∀{v m g u},s c v g->s c m u->kH g u=true->aa g<=C->t*bc<=A
 bw:∀{v m g u},s c v g->s c m u->aa g<=C->t*bc<=2*A
theorem apc{i x:a}{l q p L:kT}(b:i≠x):st e_ fA=1+st l p+if kH l p=true then st q L else 0:=aS b
theorem AB.bW dF(b:st g u=1):t*bc<=A:=by rw[b,a.a9];exact a.H fB X.JM
theorem AB.cT dF dq cx dr:∀ws e,P c ws e->fC->fD->bg d<=C->
  t*dG<=2*A+2*f*d.ap/\fE:=by
 have bz:t*2<=A:=a.a9 2 t▸a.H fB X.JM;have Et:t*2<=2*A:=a.H bz (a.cQ A dH);refine (s.bh (r:=λh h=>b9) (j:=λM d=>∀ws e,P c ws e->fC->fD->bg d<=C->
  t*dG<=2*A+2*f*d.ap/\fE) cv ⟨⟩ cw ds ?_ ?_).2 b
 ·intro ws e _ _ _ _;have:qs .n e=0:=by clear l;cases e<;>rfl
  rw[this];exact ⟨a.H Et bu,λh=>a.H bz bu⟩
 ·intro v M g d ag _ _ ih ws e af r p' ah;rw[show 2*f*(S.R g d).ap=2*f*d.ap+2*f from rfl];replace ah:max b6 eM<=C:=ah;have ah:=a.d3.mp ah;cases e with
  |n=>show t*2<=_/\(false=true->_);exact ⟨a.H Et bu,λb=>nomatch b⟩
  |R u e=>
   obtain ⟨m,ws,rfl,ab,af⟩:=af.ou;have ax:qs bb dp+2=st g u+1+(eL+1):=a.add_add_add_comm _ _ 1 1;rw[ax,a.bF];show _/\((kH g u&&mW d e)=true->_);cases ae:kH g u with
   |true=>
    rw[aN rfl];have aM:=X.aH ag ab ae (r _ k.bp) (p' _ k.bp) ah.1;have aR:=ih _ _ af (λu ag=>r u cz) (λu ag=>p' u cz) ah.2;have cP:=a.aW t (a.d0 (qs d e+1));refine ⟨?_,λb=>?_⟩
    ·exact a.H (a.aG aM (a.H cP aR.1)) fF
    ·exact a.H (a.aG aM (a.H cP (aR.2 b))) fF
   |false=>rw[aS fG];refine ⟨?_,λb=>nomatch b⟩;exact a.aG (X.bw ag ab ah.1) (a.H fH fo)
theorem Vs(bU:f*1<=f*aK)(b:t<=2*A+2*f):t<=2*fI:=
 a.H b (a.H (a.bO (a.aW 2 (a.H (a.aU (a.cg f).symm) bU)) _) (a.aU (a.bF 2 A fJ).symm))
theorem AB.next cG dF(hm':oG c aY<=oG c C+aK)(G:s c v g)(ab:s c m u)(ah:aa g<=C+1):t*bc<=2*fI/\(kH g u=true->t*bc<=A+f*aK):=by
 by_cases low:aa g<=C
 ·exact ⟨a.H (X.bw G ab low) (a.aW 2 bu),λb=>a.H (X.lk G ab b low) bu⟩
 have bn:aa g=C+1:=a.dY ah (a.cX.mp low);by_cases s1:st g u=1
 ·have:=X.bW s1;have up:=a.H this (a.bV A fJ);exact ⟨a.H up (a.cQ _ dH),λh=>up⟩
 have EX:a0 c v=C+1:=(zE G).O bn;have ne:v≠m:=λj=>s1 (L2 fK);have aQ:v∈a_ c->f*ao c v<=f*aK:=λb=>a.aW f (a.dZ (a.H (GN b EX) hm'));have aZ:v∈a_ c->m∈a_ c->kH g u=true->ao c m=ao c v->2*f*ao c v<=f*aK:=λb J d j=>by have:=aau b J ne EX ((zE ab).O ((SG G ab d).symm.O bn));rw[a.a9 2,a.a8];exact a.aW f (a.two_mul (ao c v)▸a.dZ (a.H (a.aT (oG c C) _ _▸j▸this:oG c C+(ao c v+ao c v)<=oG c aY) hm'))
 cases g with
 |num|n=>exact av rfl s1
 |z i ta tb=>
  cases u with
  |num|n|D=>exact av rfl s1
  |z x p L=>
   clear EX;obtain ⟨rfl,fS,fT,b,a1,aL⟩:=G.ou;obtain ⟨rfl,ca,dM,J,aw,bT⟩:=ab.ou;have aA:i≠x:=λj=>ne fL;have W:=a.d3.mp fM;have aQ:=aQ cH;have aZ:=λd=>aZ cH fN d rfl;replace aQ:f*1<=f*aK:=aQ;replace aZ:kH dl fA=true->2*f*1<=f*aK:=aZ;rw[apc aA];cases l1:kH ta p with
   |true=>
    have aM:=X.aH a1 aw l1 (aH.1 _ fO) (aH.1 _ fP) W.1;rw[aN rfl,show 1+st ta p+st tb L+1=st ta p+1+(st tb L+1) from (aj (λU=>U+st tb L+1) (a.bk 1 (st ta p))).O (a.aT _ _ 1),a.bF];refine ⟨Vs aQ ?_,λd=>?_⟩
    ·exact a.bk dI _▸a.aG aM (X.bw aL bT W.2)
    ·have aR:=X.lk aL bT (by
      have:=(ai.bq _ _▸d).bX λj=>aA dJ;exact (ai.bx _ _▸this).2) W.2
     exact a.H (a.aG aM aR) (a.H (a.aU (a.bk dI A)) (a.bO (a.H (a.aU (a.cg dI).symm) fQ) A))
   |false=>rw[aS fG,show 1+st ta p+0+1=st ta p+1+1 from aj cD fR,a.bF];refine ⟨Vs aQ (a.aG (X.bw a1 aw W.1) fH),λd=>?_⟩;have:=(ai.bq _ _▸d).bX λj=>aA dJ;have j:=ai.bx _ _▸this;exact bR (l1.symm.O j.1)
 |D i j d=>
  cases u with
  |num|n|z=>exact av rfl s1
  |D x Y e=>
   clear EX;obtain ⟨rfl,ts,b,ae⟩:=G.ou;obtain ⟨rfl,us,J,af⟩:=ab.ou;have aA:i≠x:=λj=>ne fL;have ax:st dn (.D x Y e)=if j=false/\Y=false/\d.ap=e.ap then 1+qs d e else 1:=aS aA
   by_cases q0:j=false/\Y=false/\d.ap=e.ap
   ·rw[ax,aN q0,show 1+qs d e+1=qs d e+2 from aj cD fR];have ak:ao c dm=d.ap:=(Fj b).O ae.ap.symm;have bf:ao c (.D x)=d.ap:=(Fj J).O (af.ap.symm.O q0.2.2.symm);have aQ:=ak▸aQ cH;have aZ:=λd=>ak▸aZ cH fN d (bf.O ak.symm);have o:=X.cT ae _ _ af (aH.2 _ fO) (aH.2 _ fP) fM;refine ⟨?_,λd=>?_⟩
    ·have aM:=o.1;rw[a.a8] at aM;exact a.H aM (a.H (a.bO (a.aW 2 aQ) _) (a.aU (a.bF 2 A _).symm))
    ·have aR:=o.2 (by
      have:=(ai.bq _ _▸d).bX λj=>aA dJ;exact (ai.bx _ _▸this).2)
     exact a.H aR (a.bO fQ A)
   ·exact av (ax.O (aS q0)) s1
end
theorem aqk c5:cl*c6<=8^7*9^i:=by
 have bz:∀i,i<7->cl*c6<=8^7*9^i:=by decide+dX
 induction i with
 |bZ=>exact bz 0 bv
 |ch i ih=>
  by_cases b:i+1<7
  ·exact bz _ b
  ·show (2+(i+1))*(9^6*(8^i*8))<=8^7*(9^i*9);rw[<-a.a8 (9^6),<-a.a8 (8^7)];refine a.H ?_ (a.d5 9 ih);rw[a.a9 c6 8,<-a.a8,a.d6 cl];exact a.d5 _ b8
theorem cJ{f e p i:a}(b:f*ea<=8^cm*9^p):f*cl*(9^eb*8^ec)<=8^c8*9^ec:=by rw[a.bG 9 c7,a.bG 8 p,a.bG 8 cm,a.bG 9 p,a.cW (9^c7),a.cW f,a.cW (8^cm)];exact a.cV b (aqk i)
theorem lift{j F X b_:a}(b:j*(F*8^b_)<=X*9^b_)(ag:b_<=59):j*(F*8^59)<=X*9^59:=by obtain ⟨L,bT⟩:=a.dR ag;rw[bT,a.bG,a.bG,<-a.a8 F,<-a.a8 j,<-a.a8 X];exact a.cV b (a.pow_le_pow_left bv L)
theorem ais{e j:a}(af:e<10)(b:j*ed<=8^c8*9^59):2*j<=2^e*8388608:=by
 have key:∀e,e<10->2*(8^c8*9^59)<=2^e*8388608*ed:=by decide+dX
 have cc:=a.H (a.aW 2 b) (key e af);rw[<-a.a8 2] at cc;exact a.le_of_mul_le_mul_right cc (a.mul_pos c9 c9)
noncomputable def cj as:a:=c.az.I+(c.jH.ar λr=>r.2.I).aI
mutual
section
variable {c:jU}{N:k y}
theorem NS fs:oG c b<=cj c:=by
 refine a.H (L8 (w:=ao c) λv h=>?_) (a.aU ?_)
 ·by_cases f:a0 c v<=b
  ·rw[aN f];exact a.aV _
  ·rw[aS f];exact a.ck _
 ·unfold a_ cj;rw[k.map_append,k.sum_append,k.d2,k.d2];refine congr (aj _ ?_) (aj k.aI (k.ext_getElem (by simp) λo fW bl=>?_))
  ·rw[show ao c∘y.z=λh=>1 from rfl,k.map_const',k.sum_replicate_nat,k.length_range,a.cg]
  ·have am:o<c.jH.I:=by simpa using bl
   rw[k.dU,k.dU,k.getElem_range];exact Fj (k.cL am)
structure ue(c:jU)(N:k y)(C e f l p:a):Prop where
 X:AB c N C (2^e) f (f*(2+l))
 bA:p+l=oG c C
 af:2*e<=uI C c_
 nm:f*ea<=8^cm*9^p
theorem ue.bZ:ue c N 0 0 1 (oG c 0) 0:=
 have two:∀bt,aa g<=0->2^0*bc<=2:=λb=>by rw[ape b];exact a.aV _
 ⟨⟨a.aV _,a.cZ _▸a.bV 2 _,λh h h h h b=>two b,λh h h b=>a.H ee (a.cZ _▸a.bV 2 _),λh h b=>a.H ee (a.le_mul_of_pos_right 2 (a.cZ _▸a.lt_add_right _ bv))⟩,a.c4 _,a.ck _,a.aV _⟩
theorem dbl{t aJ:a}(e:a)(b:2^e*t<=aJ):2^ef*t<=2*aJ:=by rw[a.pow_succ,a.d6,a.a9];exact a.aW 2 b
theorem ue.c1{C e f l p:a} cG(b:ue c N C e f l p):∃e f l p,ue c N aY e f l p:=by
 obtain ⟨aK,cM⟩:=a.dR (GL (c:=c) dD);have X:=b.X;have nx:∀{v m g u},s c v g->s c m u->aa g<=C+1->2^e*bc<=2*(f*cn)/\(kH g u=true->2^e*bc<=f*cn):=by
  rewrite [<-a.aT,a.bF]
  exact X.next aH (a.aU cM)
 have bA:p+eg=oG c aY:=by rw[<-a.aT,b.bA];exact cM.symm
 have ax:=agc (C:=C) c_;have af:=b.af;by_cases dK:2<=(Oh c N).bP aY
 ·have W:2^ef<=f*cn:=a.cV X.ye bu;refine ⟨e+1,f*cn,0,oG c aY,⟨W,a.a9 2 _▸a.aV _,?_,?_,?_⟩,rfl,b8,bA▸cJ b.nm⟩
  ·exact λG ab d h h ah=>dbl e eh
  ·exact λG ab d ah=>a.a9 2 _▸dbl e eh
  ·exact λG ab ah=>a.a9 2 _▸dbl e ((nx G ab ah).1)
 ·refine ⟨e,f,l+aK,p,⟨X.ye,a.H X.JM (a.aW f (a.bO bu _)),?_,λG ab d ah=>(nx G ab ah).2 d,λG ab ah=>(nx G ab ah).1⟩,bA,b8,b.nm⟩;intro v m g u G ab d pv pw ah;by_cases j:v=m
  ·rw[L2 fK,a.a9];exact a.aW 2 X.ye
  ·refine (a.lt_or_ge C b6).al (λbn=>?_) λbn=>X.aH G ab d pv pw bn;obtain ⟨xv,VL,_⟩:=akT G ab d j;have ak:=zE G;have:=aql j (ak.O ((SG G ab d).O (zE ab).symm)) (k.d4.a7 ⟨pv (Ff xv),Ff xv⟩) (k.d4.a7 ⟨pw (Ff VL),Ff VL⟩);rw[ak,a.dY ah bn] at this;exact av this dK
theorem ue.all cG fy:∃e f l p,ue c N C e f l p:=by
 induction C with
 |bZ=>exact ⟨_,_,_,_,ue.bZ⟩
 |ch C ih=>obtain ⟨e,f,l,p,b⟩:=ih;exact b.c1 aH
theorem apb eZ eY cG(fX:(N.cK lz).I<=19)(ag:cj c<=59) cB bt aX cC:st g u+1<=8388608:=by obtain ⟨e,f,l,p,q⟩:=ue.all aH b6;have bl:=q.af;have cc:uI b6 c_<=(N.cK lz).I:=a.H (agb _) (a.aU (k.d1 _));have dV:=lift (cJ (i:=l) q.nm) (q.bA▸a.H (NS _) ag);exact a.le_of_mul_le_mul_left (a.H (q.X.bw b J bj) (ais b8 dV)) c9
end
end
mutual
example _ h Nat σ List x e l m k τ q a p b some L w s length r u v ζ R ad t jJ trans W d n Q jD i y bo c ok I hi E arr Res f[.aB h]ts us bnd hj hl[by kernel_rfl]map _ _ _ _ _ _ _ _ _ _ _ jE jS ac es V cell le_trans hm nil j len g hp inst h0 set fs o Bool «at» cons hcl hn(M:Inv c y q)σ' ht mpr obj he hk C Ent int Int e2 h2 hu hx list reverse congrArg elim hf hg kindOf le_refl[.aB (c.s+1)]N e1[ad++x]M hO hw tup{C:jU}absurd glob grow hA hb length_map Pos bool ret(a:c[h]?=o (.an 334 (oZ g t D i sl n7)))[lv y]T casesOn decide_eq_false g1 h1 ha hq new{g i:lA}[c.s+1](r:o7 c j y q.p x)X cd codeV hB inj ne_of_gt v_eq zipWith(ah:h<c.s)[.aG 0]«by» P a1 b1 g2 hR heq hlk hv hy old steps succ_le_succ z σ1[lv y v](aZ:Off y q h)[by omega]a2 cells decide_eq_true dp hr htL items mono[.a4 350](a:ab C v z){l n:ae}[lv y u][lv y (.af H)][lv y n][.head _][T=U](sm:Small q.p)(bp:yC q.p)[(·.h)][by decide]fs' F Shape True add_le_add_left b2 cs eqv hd hp2 le_of_eq length_reverse lt_of_lt_of_le more nodup_cons tail[[.aB h]][tb uq][b.dp _][EU _ _ _](N:q.p.bR[H]?=o (l,I))[lv y I][kF e nj][λw w=>c5]{T U:d ae}[T.Z bc][U.Z bc]{E h:b}(a:E≠h)Chain Except Option dv e3 forL hlen if_neg length_append mem_cons mem_map reverse_cons succ(j:aa)[M.a5 r.pr]{z:kT}[bo::x][.a_ false][c.ap h (.an 334 aq)][yU _ _ _][λw=>cc][lv y l][λe I=>G.a1 [e,I]][l8 _ _](a:oi j y q.p aV wl e)[b.dg _ _]{j:aa}{v u:ae}[by rfl]False Nodup Unit add_assoc cont decide_eq_decide hC hN hc hh hz if_pos le_add_right le_of_lt map_append map_reverse mem_reverse mul_le_mul_left push set_set «do» zero_le[b.le_succ _]{n1 n2:b}[⟨h,bB,ce,D⟩]{v:ae}[(.L (),c)][.ba cT][(l,n)][.af aj][.af H][E+1][.aG D][(.L cT,c)][apS ao](Em:mT 334 r nO=true){O:G->aa->Prop}[λt=>jY t i](bi:jP q.p l)(a7:jP q.p n)[[lv y l,lv y n]][⟨[],_,.stop rfl⟩][A_ cX b3 e][aS q.p l][Str×G]{x:Type}[.aB E]{c:aa}[cg c 3]{aq:d dM}[.P H][mF N][M.ll N][kT×kT]{vs ws:d ae}(a:kW C vs g)(h':kW C ws i){z u:kT}{x:d aF}{z r:kT}(aL:h∉x.Z b8)D add_comm add_le_add add_right_comm and_assoc and_eq_true any_eq bt ct eb eq_false_iff eq_loop eq_str false_or fl g3 gl hs id le_add_left le_max_left le_max_right le_succ_of_le lt_succ_self mem_cons_self mem_map_of_mem mem_singleton ne_of_lt not_lt not_mem_nil ofNat_fmod ofNat_le ofNat_lt prefix_refl reverse_reverse set_own succ_pos true_and unpackK zero_add{E:b}(h':ab C u r)(ne:v≠u)[aS C v][aS C u](X:x.s<=900000)[o S][lv y (.af n1)][lv y (.af n2)][b.le_of_ble_eq_true rfl][b.ep _][p3.B p4][(f.z,f.u)][λf=>eS][[lv y m.1.v,lv y m.2.v]][d.ez _][aR _ eV][U6 ao][p1.B m][b.dh l1][⟨h,z,u,D⟩](f:oi j y q.p c.s bm e0){bd:Tb}[.aB l7]{K E:b}{r:Str}(a:c[h]?=o (.an K aq))(bh:oX bd.uv K r=o E)[a+1]{l1 l2:lA}(bD:x.s<=900000)(ci:a9 200000 x)[lv y (.P n1)][match l_ c h with|o g=>_|none=>_][lv y (.P n2)][ake lT][akc l7 lT][M.a5 s2.pr][f.a5 t8][P6 a][tg e I bY aU s5 o1 o2 o3 nu][.next fj][1000*l][λk=>aQ (bF.B k)][if kH _ _=true then pq x else 0]{o1 o2 o3 nu:cE G}[kY DO ba][mE r.a0][eq_eq oS f.ut.jP f.x_.jP][kH _ _&&_][amU oS f.ut.jP f.x_.jP]{ta tz:kT}(pS:ab q.p l ta)(ub:ab q.p n tz)(ej:st ta tz<=8388608)(dd:az ta<=100)[(λt ay=>t= .a_ (kH ta tz)/\c<+:ay)][oZ cX b3 bx bx cX b3][[ko.an 334 fA]][.an 334 fA][[.aB c.s]]{H:b}(a:pZ C v r dz)[lv y sl](a:ri c y q.p h v u D)[nJ a](lN:jP q.p v)[apV ao][(i:aH)][b.eC _][apU ao][kF S r][d.getElem?_set_self ah](n:b.blt aq.s 100=true)(a:Q (K () (c.ap h (.an 334 b_))) F O){h:b}{ar:ko}(a:c[h]?=o ar)(aj:b)[((2*aj:b):aH)][.aG 2][((2:b):aH)][((2*aj+1:b):aH)][.aG 1](N:q.p.bR[H]?=o dw)(W:q.p.bR[aj]?=o (K,f))[lv y f][.aG ((i+1:b):aH)][J (xm _ _ _) ?_][k+1][.a_ (decide (l=n))]{i:as->aY G}[b.em l n][⟨aO ae.num,ae.num.bs⟩][no a6 br nofun](l n:s6)[aS q.p n][EV (al:=λw=>cc) ⟨⟩][.a4 aE][t.Z .a4][qy M bi aE dc][[(.a4 82),(.a4 125),(.a4 146),(.a4 104),(.a4 181)]][[82,125,146,104,181]]{al:aa->Prop}{h E:b}[.aM l][.aM n][d.mem_cons_of_mem _ aK][.aG e][.aG I][m&&k]{H aj:b}[(false,T)][(false,U)][Dh [lv y dS,lv y (.P aj)] c][mF W][nJ N][Sf M (v:= .P H) gw 125 146 rfl rfl][xu M N][M.ll W][(by rw[d.a8];omega)][.aB c.s][.aM (T.Z bc).aN][.aM (U.Z bc).aN][⟨f,_,rfl,mO _ _⟩][⟨d.ez _,.inl ⟨f,rfl⟩⟩][(true,T)][(true,U)][bp _ dT][bp _ gv][vs.Z R][ws.Z R][[R m.1.v,R m.2.v]][λw w=>rfl][b.en l n][(· +1)](m k:as)(l n t:b)[if k=true then t else 0][if m=true then n else 0][if gq=true then t else 0]{D:b}{ad x:d aF}[λe=>(e.z,e.u)][if mW g i=true then pq x else 0][mW g i&&qi x][kH e.z e.u&&mW g i](c:aa)[∀u∈vs,bq u][∀u∈ws,bq u][vs=ws][.co _ aK][[g,t,D]]{aV wl:b}{e:aF}[if kH l K=true then st n D else 0][oZ g t D bx g t]{l n K D:kT}[.af E l n][.af h K D][kH l K&&kH n D][(k==t)&&mW g i](m:j<+:A)[.aG (D:b)][j.ap h ar]em:True:=x
theorem mx a2{l n:b}(a:l<=oG C l+1)(h':n<=oG C n+1):max l n<=oG C (max l n)+1:=b.max_le.aA ⟨b.ag a (b.bK (GL f9)),b.ag h' (b.bK (GL gO))⟩
theorem ajD a2 dt cR bZ:az z<=units C+1:=
 b.ag ((ab.ind (m:=λw z=>az z<=oG C (az z)+1) (k:=λw g=>bV g<=oG C (bV g)+1) (λw=>b.dp _) cr
  (λa l n H aj=>b.bK (b.ag (mx H aj) (GN (xH (v:= .af _) fI rfl) (zE (.af a l n)))))
  (λ{E i T g} a l H=>by
   have:=GN (xH (v:= .P E) fI rfl) (zE (.P a l));rw[Fj a] at this;induction l using kW.be with
   |ai=>exact b.bK cr
   |au=>exact b.bK (b.ag H (b.ag (b.cd (b.el 1 _) _) this))) cr λw w H aj=>mx H aj).1 a) (b.bK (NS _))
theorem ab.chain a2 dt cR bZ:∃cf f,cC C v cf f:=
 (ab.ind (m:=λv w=>∃cf f,cC C v cf f) (k:=λw w=>cc) (λw=>dJ) dJ (λa w w w H=>H.aP λcf H=>H.aP λf H=>⟨_,_,.next a H⟩) (λw w w=>dJ) ⟨⟩ λw w w w=>⟨⟩).1 a
noncomputable def oZ(g t D i sl n7:G):d dM:=[(rm,g),(sj,t),(uD,D),(uE,i),(sq,sl),(tu,n7)]
theorem I4:mT 334 rm nO=true:=Y
theorem I5:mT 334 sj nO=true:=Y
theorem Ph:mT 334 uD nO=true:=Y
theorem Eo:mT 334 uE nO=true:=Y
theorem I6:mT 334 sq nO=true:=Y
theorem I8:mT 334 tu nO=true:=Y
theorem sn dN dP dR{e:Str}{v:G}{i:c7->aY x}(X:b.blt aq.s 100=true)(bi:mT 334 e nO=true):V (lS gB e v) i (c++[.an 334 aq])=i () (c++[.an 334 (mK aq e v)]):=
 (jX (rQ (mO c _) X bi)).B (by rw[ua])
theorem Tg g1(g t D:G):k9 334 vm g6 c=o (.L gB,c++[.an 334 g_]):=by refine z4 ?_;rw[aaw];refine (sn c4 I4).B ((sn c4 I5).B ((sn Y Ph).B ((sn Y Eo).B ((sn Y I6).B ((sn Y I8).B ?_)))));rw[show mK (mK (mK (mK (mK (mK [] rm g) sj t) uD D) uE bx) sq g) tu t=oZ g t D bx g t by kernel_rfl];rfl
mutual
section
variable {c:aa}{h:b}{g t D i sl n7:G}
theorem apS bb:kF S rm c=o (.L g,c):=rD a I4 Y
theorem apT bb:kF S sj c=o (.L t,c):=rD a I5 Y
theorem U6 bb:kF S uD c=o (.L D,c):=rD a Ph Y
theorem apV bb:kF S uE c=o (.L i,c):=rD a Eo Y
theorem apU bb:kF S sq c=o (.L sl,c):=rD a I6 Y
theorem as_ bb:kF S tu c=o (.L n7,c):=rD a I8 Y
theorem Ua e2 e4 dR e5 e6 e7(aJ:lk aq r=none):mG bd S r c=o du:=
 nS ((j7 rfl).B (by show fc=_;rw[SS a];exact (j7 fi).B ((j7 bh).B (by rw[aJ];rfl))))
theorem S0 e2 e4 dR e5{ca:d G->aY G} e6 e7(aJ:lW bd.ca E=o ca):lQ bd S r [] c=ca cp c:=
 zd ((j7 rfl).B (by show fc=_;rw[SS a];exact (j7 fi).B ((j7 bh).B (j7 aJ))))
theorem SO:oX (tb uq).uv 334 wU=o 324:=Y
theorem SN:oX (tb uq).uv 334 wV=o 331:=Y
theorem anf bb:mG cq S wU c=o du:=Ua a SO Y
theorem ane bb:mG cq S wV c=o du:=Ua a SN Y
theorem alM bb:lQ cq S wU [] c=C9 cp c:=S0 a SO Y
theorem alI bb:lQ cq S wV [] c=C8 cp c:=S0 a SN Y
theorem dn g1(h:b)(l n:ko):(c.ap h l).ap h n=c.ap h n:=d.dn _
end
inductive pZ(C:jU)(v r:ae):b->Prop where
 |mk {pl LG:d b} {f:ae} (L:jP C r) (a:cC C r (pl++LG) f) (z:cC C v LG f):pZ C v r pl.s
inductive OU(C:jU)(v:ae)(E:b):ae->Prop where
 |mk {aj:b} {l n:ae} (al:C.bR[aj]?=o dw) (a:pZ C v n E):OU C v E dx
inductive D8:b->b->Prop where
 |f (aj:b):D8 (2*aj) aj
 |ar (aj:b):D8 (2*aj+1) (aj+1)
mutual
section
variable {C:jU}{v r:ae}{E:b}
theorem pZ.on fE b0(a:pZ C dy r E)(al:C.bR[H]?=o dw):pZ C n r dz:=by
 induction a with
 |@mk pl _ _ L a z=>cases z with
 |stop k=>exact nomatch k
 |@next _ _ _ LG _ g' z=>obtain rfl:=aO Prod.snd (cE.o.bs (g'.symm.B al));have:=pZ.mk (pl:=pl++[H]) L (by rw[d.append_assoc];exact a) z;rw[d.cK] at this;exact this
theorem pZ.inv(M:∀m∈C.bR,jP C m.1/\jP C m.2) fF:OU C v E r:=by
 generalize aw:E+1=h at a;induction a with
 |@mk pl _ _ L a z=>cases pl with
 |ai=>exact nomatch aw
 |au m pl=>
  obtain rfl:=b.cO.bs aw;cases a with
  |next al a=>exact .mk al (.mk (M _ (mF al)).2 a z)
theorem pZ.L(a:pZ C v r E):jP C r:=by induction a;assumption
theorem pZ.ne fF:v≠r:=by rintro rfl;generalize aw:E+1=h at a;obtain ⟨L,a,z⟩:=a;have:=aO d.s (a.det z).1;rw[d.cK,<-aw,b.succ_add] at this;exact b.bt (b.lt_succ_of_le (b.el _ _)) this
end
inductive ri(c:aa)(y:kD)(C:jU)(h:b)(v u:ae)(D:b):Prop where
 |mk {i E:b} {sl n7:ae} (a:c[h]?=o (.an 334 (oZ bN b1 dA (.aG i) fG (lv y n7)))) (m:D8 i E) (g:pZ C v sl E) (t:pZ C u n7 E)
mutual
section
variable {c:aa}{y:kD}{q:kG}{h:b}{v u:ae}{D:b}
theorem ri.bX{ay:aa} fH(f:ay[h]?=c[h]?):ri ay y q.p h v u D:=by obtain ⟨a,m,g,t⟩:=a;exact ⟨f.B a,m,g,t⟩
theorem pZ.bk a2 cR bZ(L:jP C v):pZ C v v 0:=a.chain.aP λw a=>a.aP λw a=> .mk (pl:=[]) L a a
theorem ri.bk{tv qH:kT}(bG:ab q.p v tv)(aK:ab q.p u qH) fJ(mH:jP q.p u)(a:c[h]?=o (.an 334 (oZ bN b1 dA bx bN b1))):ri c y q.p h v u D:=
 ⟨a,.f 0,.bk bG lN,.bk aK mH⟩
theorem akd ax fJ fH:C9 cp c=o dB:=by
 cases a with
 |@mk _ E _ _ ao m g _=>
 rw[aay];refine (jX fK).B ((jX cs).B ?_);have on:∀{i E:b} {sl:ae},pZ q.p v sl dz->(0<i)->kF S rm c=o (.L bN,c)->kF S sq c=o (.L fG,c)->(match decide ((0:aH)<fL) with|true=>B2 S|false=>ba cT) c=o dB:=λg aD bh aJ=>by
  rw[bS (aH.ey.aA aD)];refine (jX bh).B ((jX aJ).B ?_);cases g.inv M.L.K with
  |mk al a=>exact (jX (xD (zM M lN g.L λk=>nomatch (show s6.af=s6.num from k.2)) c)).B (by rw[bf g.ne];rfl)
 induction m with
 |f aj=>cases aj with
  |zero=>rfl
  |cO aj=>exact on g fM dC fN
 |ar=>exact on g fM dC fN
mutual
section
variable {x:Type}{F:x->aa->Prop}{O:G->aa->Prop}{K:c7->aY x}{aq b_:d dM}{r:Str}{e:G}
theorem U_ bw dD(al:lk aq r=o e){K:G->aY x}(a:Q (K e cU) F O):Q (V fO K cU) F O:=
 J (rD fP Em al) a
theorem Vc bw dD fQ(m:mK aq r e=b_) fR:Q (V (lS S r e) K cU) F O:=
 J (rQ fP n Em) (by rw[dn,m];exact a)
theorem Gk ax bO bw dD fQ fE{l I:ae} ct(al:lk aq r=o b2)(m:mK aq r cu=b_) fR:
  Q (V fO (λe=>V cv λI=>V (lS S r I) K) cU) F O:=
 U_ ah Em al (J (rE (M.scratch aZ _) N) (Vc ah Em n m a))
end
mutual
section
variable {x:Type}{F:x->aa->Prop}{O:G->aa->Prop}{K:c7->aY x}{g t d' i sl n7:G}{H:b}{l I:ae}
theorem am2 ax bO bw ct(a:Q (K () (c.ap h (.an 334 (oZ cu t d' i sl n7)))) F O):Q (V (kF S rm) (λe=>V cv λI=>V (lS S rm I) K) (c.ap h (.an 334 (oZ b2 t d' i sl n7)))) F O:=Gk M aZ ah I4 rfl N Y Y a
theorem am3 ax bO bw ct(a:Q (K () (c.ap h (.an 334 (oZ g cu d' i sl n7)))) F O):Q (V (kF S sj) (λe=>V cv λI=>V (lS S sj I) K) (c.ap h (.an 334 (oZ g b2 d' i sl n7)))) F O:=Gk M aZ ah I5 rfl N Y Y a
theorem am4 ax bO bw ct(a:Q (K () (c.ap h (.an 334 (oZ g t d' i cu n7)))) F O):Q (V (kF S sq) (λe=>V cv λI=>V (lS S sq I) K) (c.ap h (.an 334 (oZ g t d' i b2 n7)))) F O:=Gk M aZ ah I6 rfl N Y Y a
theorem am5 ax bO bw ct(a:Q (K () (c.ap h (.an 334 (oZ g t d' i sl cu)))) F O):Q (V (kF S tu) (λe=>V cv λI=>V (lS S tu I) K) (c.ap h (.an 334 (oZ g t d' i sl b2)))) F O:=Gk M aZ ah I8 rfl N Y Y a
theorem eB dP fS fT fU:c.ap h ar=c:=by
 refine d.ext_getElem? λH=>?_;by_cases k:h=H
 ·subst k;rw[qV a,a]
 ·exact rS _ k
theorem PI fT{R:aY x} fU(al:Q (R (c.ap h ar)) F O):Q (R c) F O:=by rw[eB a] at al;exact al
end
theorem alD fV:kh .Mod (.aG fW) fX c=o (.L bx,c):=
 show o (cD.L (G.aG (aH.fmod fW fY)),c)=_ by rw[<-aH.ew,b.mul_mod_right];rfl
theorem alE fV:kh .Mod (.aG fZ) fX c=o (.L f0,c):=
 show o (cD.L (G.aG (aH.fmod fZ fY)),c)=_ by rw[<-aH.ew,b.mul_add_mod];rfl
mutual
section
variable {H aj:b}{l n K f:ae}
theorem Rp{i:b}{sl n7:G} ax bO bw f1 f2{cF:G}{F:G->aa->Prop} dE(a:F .none (c.ap h (.an 334 (oZ b3 f3 cF f4 sl n7)))):
  Q (C5 S (c.ap h (.an 334 (oZ b2 (lv y dx) cF (.aG fL) sl n7)))) F O:=
 am2 M aZ ah N (am3 M aZ ah W (U_ ah Eo (e:= .aG i) Y (J cV (Vc (b_:=oZ b3 f3 cF f4 sl n7) ah Eo c4 Y a))))
theorem aiW ax bO f1 f2(a:ri c y q.p h dy dx D):
  Q (C8 cp c) (λt ay=>t= .none/\∃ar,ay=c.ap h ar/\ri ay y q.p h n f D) cw:=by
 obtain ⟨ao,m,g,t⟩:=a;have ah:=oK ao;rw[aax];refine J fK ?_;have g:=g.on N;have t:=t.on W;induction m with
 |f=>refine J (alD _) f5;exact PI (R:=C5 _) ao (Rp M aZ ah N W ⟨rfl,_,rfl,qV ao,.ar _,g,t⟩)
 |ar k=>
  refine J (alE _) f5;cases g.inv M.L.K with
  |mk ei l1=>cases t.inv M.L.K with
   |mk aiX r1=>exact PI (R:=NN _) ao (am4 M aZ ah ei (am5 M aZ ah aiX (Rp M aZ ah N W ⟨rfl,_,rfl,qV ao,show D8 (2*k+1+1) f6 from .f f6,l1,r1⟩)))
end
theorem Ex dN{h:aY G}{i:as->aY x}{k K:as}{c ay:aa}(a:h c=o (.L (.a_ k),ay))(f:k=K):V h dF c=i K ay:=(jX a).B (by rw[CR,f])
theorem eq_eq ax b0 dG dH:Dd dI c=o (.L f7,c):=by
 have wa:∀{K},l.p_=K->∀f8,V (sW [lv y l]) dF c=i K c:=λf w=>Ex (Fg M bi) f;have wb:∀{K},n.p_=K->∀f8,V (sW [lv y n]) dF c=i K c:=λf w=>Ex (Fg M a7) f;have no:∀{K D},l.p_=K->n.p_=D->K≠D->o dB=o (cD.L (α:=G) (ε:=G) f7,c):=λa al E=>by rw[bf λf=>E (a.symm.B ((aO ae.p_ f).B al))]
 rw[aaE];cases a6:l.p_ with
 |true=>cases br:n.p_ with
  |true=>
   refine (wa a6).B ((wa a6).B ((wb br).B ?_));cases l with
   |num H=>cases n with
    |num aj=>exact (jX (xm c H aj)).B (aO (λk=>o (cD.L (G.a_ k),c)) (c_.aA f_))
    |_=>exact nomatch br
   |_=>exact nomatch a6
  |false=>exact (wa a6).B ((wa a6).B ((wb br).B ga))
 |false=>cases br:n.p_ with
  |true=>exact (wa a6).B ((wb br).B ((wa a6).B ga))
  |false=>refine (wa a6).B ((wb br).B ((jX (xD (zM M bi a7 λa=>?_) c)).B rfl));have:=Fw (C:=q.p) (v:=l);rw[a.1,a6] at this;exact nomatch this
noncomputable def Cx gb:as:=match l with
 | .af=>nH 82 n
 | .vec=>nH 125 n
 | .str=>nH 104 n
 |_=>false
noncomputable def F2 gb(R:jI):d b->jI
 |[]=>R
 |aE::t=>match nH aE l with
  |true=> .ba (.a_ (nH aE n))
  |false=>F2 l n R t
theorem amL ax b0 dG dH:∀(g:d b) (e:cE G),(∀aE,uR aE=true\/aE∉g)->∃I,cH cW wA (g.Z .a4) dK c=o (.L (F2 dL gc (.next (A_ cX b3 I)) g),c):=by
 intro g;induction g with
 |ai=>exact λe w=>⟨e,show V _ _ c=_ from (jX gd).B rfl⟩
 |au aE t ih=>
  intro e da;have dc:uR aE=true:=(da aE).aP ek λk=>a3 b4 k;have r:∀{R:jI} (_:wA ge dK c=o (.L R,c)),cH cW wA ((aE::t).Z .a4) dK c=(match R with
   | .ba v=>ba (jI.ba v)
   | .next ρ=>cH cW wA gf ρ
   | .c9 ρ=>cH cW wA gf ρ) c:=λa=>(show V _ _ c=_ from jX gd).B (show V _ _ c=_ from jX a)
  cases aD:nH aE dL with
  |true=>exact ⟨e,(r (by rw[Ou];exact (Ex gg aD).B (jX (qy M a7 aE dc)))).B (by unfold F2;rw[aD];rfl)⟩
  |false=>obtain ⟨I,f⟩:=ih (o ge) λd3=>(da d3).imp_right λk h=>k (.co _ h);exact ⟨I,(r (by rw[Ou];exact Ex gg aD)).B (by unfold F2;rw[aD];exact f)⟩
theorem amU ax b0 dG dH:C_ dI c=o (.L (.a_ (Cx dL gc)),c):=by
 rw[aaD];refine (jX (show m9 (.a1 gh) c=o (.L ⟨gh,λw=>cc⟩,c) from rfl)).B ?_;obtain ⟨I,f⟩:=amL M bi a7 gi none λaE=>(Decidable.hi (aE∈gi)).imp_left λa=>by revert aE;decide
 refine (jX f).B ?_;cases aS q.p l<;>first|rfl|exact congrFun (abp _ _ _) c
end
theorem ar0{α β γ:Type}(R:α->β->γ):∀{l:d α} {n:d β},l.s=n.s->d.bv R l.aN n.aN=(d.bv R l n).aN:=by
 intro l;induction l with
 |ai=>intro n a;cases n with
  |ai=>rfl
  |au I n=>cases a
 |au e l ih=>intro n a;cases n with
  |ai=>cases a
  |au I n=>
   have h':l.s=n.s:=by simpa using a
   rw[d.cN,d.cN,d.zipWith_append (by simpa using h'),ih h'];show _=(R e I::d.bv R l n).aN;rw[d.cN];rfl
theorem agy gj dP{bW:d G}(aR:al c)(N:∀e∈bW,∃l n,e= .a1 [l,n]) dE:
  Q (ki al (λo5=>eE o5 λakr=>two akr λaqq aqr=>ba [(.a1 [aqq,aqr])]) bW c) (λvs j=>vs=bW/\j=c) O:=by
 refine agk (bz:=λg l j=>j=c/\bW=l++g) ?_ ?_ ?_ bW c ⟨rfl,rfl⟩
 ·rintro g l j ⟨rfl,_⟩;exact aR
 ·rintro e t l j ⟨rfl,a⟩;obtain ⟨m,k,rfl⟩:=N e (by rw[a];simp);exact ⟨rfl,by simp [a]⟩
 ·rintro l j ⟨rfl,a⟩;exact ⟨by simpa using a.symm,rfl⟩
mutual
section
variable {c:aa}{y:kD}{q:kG}
theorem VQ gk{l n:d G}(a:c[h]?=o gl)(h':c[E]?=o gm):
  yf [.aB h,.aB E] c=o (.L ⟨d.bv (λe I=> .a1 [e,I]) l n,λj=>j[h]?=o gl/\j[E]?=o gm/\j[c.s]?=o .oB⟩,c++[.oB]):=
 jX (nS ((j7 rfl).B ((j7 rfl).B ((j7 (pN a)).B (j7 (pN h'))))))
set_option tactic.hygienic true in
theorem ah_ gk cx(az:∀u∈T,bq u)(aK:∀u∈U,bq u)(a:c[h]?=o (.aM cy))(h':c[E]?=o (.aM cz)):jN .Eq S dO c=o (.L (decide b5),c):=by
 have all:∀(T U:d ae),(∀u∈T,bq u)->(∀u∈U,bq u)->T.s=U.s->o_ dQ cy cz=o (decide b5):=by
  intro T;induction T with
  |ai=>intro U _ _ a;cases U with
   |ai=>rfl
   |au=>cases a
  |au z T ih=>intro U bh aJ a;cases U with
   |ai=>cases a
   |au u U=>
    have X:T.s=U.s:=by simpa using a
    have H:=ih U (λu aK=>bh u gn) (λu aK=>aJ u gn) X;have ea:=bh z d.eq;have agA:=aJ u d.eq;clear bh;cases z<;>try (exact ea.aP)
    clear aJ a;cases u<;>try (exact agA.aP)
    rename_i e I;show ob (cg c 3 go gp) (λm=>ob (o_ dQ cy cz) λk=>o gq)=_;refine (j7 (show cg c 3 go gp=o (decide (e=I)) from rfl)).B ((j7 H).B ?_);by_cases f:e=I<;>simp [f]
 show look (λc=>cg c 4 S dO) c=_;unfold look;dsimp only;have:cg c 4 S dO=o (decide b5):=by
  rw[JT a h'];show (match b.beq (T.Z bc).s (U.Z bc).s with|true=>o_ dQ cy cz|false=>o false)=_;cases a7:b.beq (T.Z bc).s (U.Z bc).s with
  |true=>have:=b.eq_of_beq_eq_true a7;exact all T U az aK (by simpa using this)
  |false=>
   have:=b.ne_of_beq_eq_false a7;have hne:T≠U:=by rintro rfl;exact this rfl
   rw[bf hne]
 rw[this]
theorem am9 gr cx ax b6(N:q.p.jH[H]?=o gs)(W:q.p.jH[aj]?=o gt):
  Q gu (λt ay=>c<+:ay/\((T.s≠U.s/\t= .none)\/(T.s=U.s/\∃E,t= .aB E/\ay[E]?=o (.aM (d.bv cY cy cz).aN)))) cw:=by
 have Ft:aS q.p dS= .vec:=by simp only [aS,N]
 have X:T.s<=1000:=sm.l _ dT;have hl':U.s<=1000:=sm.l _ gv;rw[N6];refine J gx ?_;rw[CR,Ft];refine J gy ?_;refine J (mE dU) ?_;refine J (xu M W) ?_;refine J (mE gz) ?_;refine J (K4 _ _ _) ?_;rw[d.a8,d.a8];by_cases f:T.s=U.s
 ·rw[bS bP];show Q _ _ _;refine J gy ?_;rw[we dU gA];have p1:=l8 c gC;have bg:=mO c gC;generalize c++[ko.aM (T.Z bc).aN]=bM at p1 bg⊢;have oS:=M.a5 p1;refine J (xu oS W) ?_;rw[we (oS.ll W) gA];have p2:=l8 bM gD;have bC:=mO bM gD;generalize bM++[ko.aM (U.Z bc).aN]=σ2 at p2 bC⊢;have Rk:=kZ p2 bg;refine J (VQ Rk bC) ?_;have p3:=l8 σ2 .oB;refine lU (agy (O:=λw w=>c5) ⟨kZ p3 Rk,kZ p3 bC,mO _ _⟩ ?_) ?_ λw w a=>a.aP
  ·intro e aL;have:∀(l n:d G),e∈d.bv cY l n->∃m k,e= .a1 [m,k]:=by
    intro l;induction l with
    |ai=>intro n a;cases a
    |au m l ih=>intro n a;cases n with
     |ai=>cases a
     |au k n=>
      rw[d.zipWith_cons_cons] at a;rcases d.cL.mp a with a|a
      ·exact ⟨m,k,a⟩
      ·exact ih n a
   exact this _ _ aL
  ·rintro vs j ⟨rfl,rfl⟩;rw[ar0 _ (by rw[d.a8,d.a8];exact f)];refine J (oV _ (by simp;omega)) ?_;exact ⟨p1.B (p2.B (p3.B cZ)),.inr gE⟩
 ·rw[bf bP];exact gF
theorem am8 gr cx ax b7(N:q.p.jH[H]?=o gG)(W:q.p.jH[aj]?=o gH):
  Q gu (λt ay=>c<+:ay/\((T≠U/\t= .none)\/(T=U/\∃E,t= .aB E/\ay[E]?=o (.aM [])))) cw:=by
 have Ft:aS q.p dS= .str:=by simp only [aS,N]
 rw[N6];refine J gx ?_;rw[CR,Ft];refine J (qy M (v:= .P H) gw 104 rfl) ?_;rw[CR,Ft];refine J (BQ M N) ?_;refine J (BQ M W) ?_;refine J (ah_ gI gJ dU gz) ?_;by_cases f:T=U
 ·rw[bS f];refine J (oV _ (by simp)) ?_;exact ⟨l8 _ _,.inr gE⟩
 ·rw[bf f];exact gF
end
structure aF where
 h:b
 z:kT
 u:kT
 D:b
noncomputable def pq:d aF->b
 |[]=>0
 |e::t=>st e.z e.u+(if kH e.z e.u=true then pq t else 0)
noncomputable def qi:d aF->as
 |[]=>true
 |e::t=>kH e.z e.u&&qi t
noncomputable def a9(p:b):d aF->Prop
 |[]=>cc
 |e::t=>t.s+1000*az e.z<=p/\a9 p t
noncomputable def q2:lA->lA->d dV
 | .au z g,.au u i=>(z,u)::q2 g i
 |_,_=>[]
theorem VO a2{R:ae->G} bl dW dX dY:d.bv cY gK gL=(q2 g i).Z λm=>G.a1 gM:=
 a.vN (bz:=λvs ws g i=>d.bv cY gK gL=(q2 g i).Z λm=>G.a1 gM) (λw=>rfl) gN (λ{v vs z g q ws u i} l w n w H=>by show G.a1 [R v,R q]::_=G.a1 [R z.v,R u.v]::_;rw[l.bu,n.bu];exact aO _ H) h'
theorem VP a2 bl dW dX dY:∀m∈q2 g i,ab C m.1.v m.1/\ab C m.2.v m.2/\az m.1<=bV g:=
 a.vN (bz:=λw w g i=>∀m∈q2 g i,ab C m.1.v m.1/\ab C m.2.v m.2/\az m.1<=bV g) (λw w am=>a3 am d.ev) (λw w w am=>a3 am d.ev)
  (λl w n w H=>d.forall_mem_cons.aA ⟨⟨l.bu.symm▸l,n.bu.symm▸n,b.em _ _⟩,λm am=>(H m am).imp ek λH=>⟨H.1,b.ag H.2 (b.en _ _)⟩⟩) h'
theorem VN bl:g.ak=i.ak->(q2 g i).s=g.ak:=
 lA.vN (bz:=λg i=>g.ak=i.ak->(q2 g i).s=g.ak) gN (λw w a=>nomatch a) (λw w w w H a=>aO gP (H (b.cO.bs a))) g i
theorem aeZ gQ gR:l+(if m=true then n+gS else 0)=l+gT+gU:=by cases m<;>cases k<;>simp<;>omega
theorem anh gV bl:∀gW,g.ak=i.ak->ad.Z gX=q2 g i->pq aX=qs g i+gY/\qi aX=gZ:=
 lA.vN (bz:=λg i=>∀gW,g.ak=i.ak->ad.Z gX=q2 g i->pq aX=qs g i+gY/\qi aX=gZ) (λi {ad x} X a=>by
  cases i with
  |au=>exact nomatch X
  |ai=>cases ad with
   |ai=>exact ⟨(b.eF _).symm,rfl⟩
   |au=>exact nomatch a) (λw w {_ _} a=>nomatch a) (λz g u i H {ad x} X a=>by
  cases ad with
  |ai=>exact nomatch a
  |au e ad=>
   have H:=H (x:=x) (b.cO.bs X) (d.au.bs a).2;have f:=Prod.mk.bs (d.au.bs a).1;rw[<-f.1,<-f.2];constructor
   ·show st e.z e.u+(if kH e.z e.u=true then pq aX else 0)=(st e.z e.u+if kH e.z e.u=true then qs g i else 0)+if g0=true then pq x else 0
    rw[H.1];exact aeZ _ _ _ _ _
   ·show (kH e.z e.u&&qi aX)=(g0&&qi x);rw[H.2,as.d7]) g i
theorem SE bl:mW g i=true->g.ak=i.ak:=
 lA.vN (bz:=λg i=>mW g i=true->g.ak=i.ak) (λi a=>by cases i with|ai=>rfl|au=>exact ft_ a) (λw w a=>ft_ a) (λz g u i H a=>aO gP (H ((as.d8 (kH z u) (mW g i)).mp a).2)) g i
theorem ab.jP a2 dt cR bZ:Mine.Internal.jP C v:=by
 induction a using ab.be with
 |num=>trivial
 |ai=>trivial
 |af a _ _=>exact nJ a
 |P a _=>exact nJ a
theorem akP a2{v q:ae} dZ(l:ab C v z)(n:ab C q u)(K:bq v)(D:bq q):kH z u=decide (v=q):=by
 induction l using ab.be with
 |num=>induction n using ab.be with
  |num=>exact c_.aA f_
  |_=>exact D.aP
 |_=>exact K.aP
theorem akF a2 bl dW dX dY:g2->g3->mW g i=decide g4:=
 a.vN (bz:=λvs ws g i=>g2->g3->mW g i=decide g4) (λa=>by induction a using kW.be<;>exact λw w=>rfl) (λw w w w=>rfl) (λ{v vs z g q ws u i} l w n w H K D=>by show (kH z u&&mW g i)=_;rw[akP l n (K _ b4) (D _ b4),H (λu aK=>K u g5) λu aK=>D u g5];exact (as.decide_and _ _).symm.B (c_.aA d.cons_eq_cons.symm)) h'
structure oi(j:aa)(y:kD)(C:jU)(aV wl:b)(e:aF):Prop where
 bI:aV<=e.h
 ne:e.h≠wl
 x9:ri j y C e.h e.z.v e.u.v e.D
 ut:ab C e.z.v e.z
 x_:ab C e.u.v e.u
 bT:e.D+az e.z<=100
theorem oi.bX{j A:aa}{y:kD}{q:kG} g7 g8 c0(f:A[e.h]?=j[e.h]?):oi A y q.p aV wl e:=⟨a.bI,a.ne,a.x9.bX f,a.ut,a.x_,a.bT⟩
theorem apf:∀z u:kT,1<=st z u
 | .af E l n,.af h K D=>by
  show 1<=if E=h then 1 else 1+st l K+g9
  split
  ·exact b.aT 1
  ·exact b.ag (b.dg 1 _) c1
 | .P E k g,.P h t i=>by
  show 1<=if E=h then 1 else if k=false/\t=false/\g.ak=i.ak then 1+qs g i else 1
  split
  ·exact b.aT 1
  ·split
   ·exact b.dg 1 _
   ·exact b.aT 1
 | .num _,_=>b.aT 1
 | .ai,_=>b.aT 1
 | .af _ _ _,.num _=>b.aT 1
 | .af _ _ _,.ai=>b.aT 1
 | .af _ _ _,.P _ _ _=>b.aT 1
 | .P _ _ _,.num _=>b.aT 1
 | .P _ _ _,.ai=>b.aT 1
 | .P _ _ _,.af _ _ _=>b.aT 1
theorem ao8:∀d0,x≠[]->1<=pq x
 |[],a=>a3 rfl a
 |e::t,_=>b.ag (apf e.z e.u) c1
theorem ab3{p a:b}{x ad:d aF}(aC:∀f∈ad,az f.z<=a)(X:x.s+ad.s+1000*a<=p+1)(m:a9 p x):a9 p aX:=by
 induction ad with
 |ai=>exact m
 |au f ad ih=>have aJ:x.s+ad.s+1000*a<=p:=b.le_of_succ_le_succ (b.ag (b.cj (b.d6 (x.s+ad.s) (1000*a) 1)) X);refine ⟨b.ag (b.d5 (b.cj (d.cK.B (b.d4 _ _))) (b.dl _ (aC f b4))) aJ,ih (λe aL=>aC e (.co _ aL)) (b.eo aJ)⟩
theorem asb{p:b}:∀d0,a9 p x->x.s<=p+1
 |[],_=>b.dp _
 |e::t,a=>by simp only [d.length_cons];have:=a.1;omega
theorem KP cA ha cB:kH hb hc=hd:=by show (b.beq E h||hd)=_;rw[Eu a,as.ef]
theorem KO cA{k t:as} bl cB:kH (.P E k g) (.P h t i)=he:=by show (b.beq E h||he)=_;rw[Eu a,as.ef]
theorem apd cA ha cB:st hb hc=1+st l K+g9:=by exact cJ a
theorem aph cA bl cB(X:g.ak=i.ak):st (.P E false g) (.P h false i)=1+qs g i:=by exact (cJ a).B (df ⟨rfl,rfl,X⟩)
theorem apg cA bl cB:st (.P E true g) (.P h true i)=1:=by exact (cJ a).B (cJ λk=>nomatch k.1)
mutual
section
variable {c j A:aa}{y:kD}{q:kG}{aV wl:b}{e:aF}
theorem oi.lt c0:e.h<j.s:=by obtain ⟨ao,_⟩:=a.x9;exact oK ao
theorem oi.a5 c0 hf:oi A y q.p aV wl e:=by obtain ⟨r,rfl⟩:=m;exact a.bX (d.getElem?_append_left a.lt)
theorem oi.LW c0(ar:ko):oi (j.ap wl ar) y q.p aV wl e:=a.bX (rS ar a.ne.symm)
theorem ri.at c2 a2 fS c3 gV(a:ri j y C h v u D):∃i sl n7,j[h]?=o (.an 334 (oZ bN b1 dA i sl n7)):=by obtain ⟨a,_⟩:=a;exact ⟨_,_,_,a⟩
theorem oi.bk c2{h D:b} c3 d1(bG:ab q.p v z)(aK:ab q.p u r)(a:j[h]?=o (.an 334 (oZ bN b1 hg bx bN b1)))(bI:aV<=h)(ne:h≠wl)(ch:D+az z<=100):oi j y q.p aV wl ⟨h,z,r,D⟩:=by obtain rfl:=bG.bu;obtain rfl:=aK.bu;exact ⟨bI,ne,ri.bk bG aK bG.jP aK.jP a,bG,aK,ch⟩
structure o7(c j:aa)(y:kD)(C:jU)(x:d aF):Prop where
 pr:c<+:j
 a0:j[c.s+1]?=o (.aM (x.aN.Z λe=> .aB e.h))
 nd:(x.Z b8).c6
 L:∀e∈x,oi j y C c.s bm e
mutual
section
variable {x:d aF}{F:jI->aa->Prop}{O:G->aa->Prop}{i:G->aY jI}{bd:Tb}{h:b}{ar:ko}
theorem o7.cm bn hf:o7 c A y q.p x:=⟨r.pr.B m,kZ m r.a0,r.nd,λe aL=>(r.L e aL).a5 m⟩
theorem o7.upd bn(ah:c.s<=h)(ne:h≠c.s+1) d2:o7 c hh y q.p x:=
 ⟨v8 r.pr ah _,(rS _ ne).B r.a0,r.nd,λI bH=>(r.L I bH).bX (rS _ λk=>aL (k▸d.er (R:=b8) bH))⟩
theorem o7.lt bn:c.s+1<j.s:=oK r.a0
theorem o7.pop g8(r:o7 c j y q.p (e::x))(a:∀A,o7 c A y q.p x->oi A y q.p c.s bm e->e.h∉x.Z b8->Q (i (.aB e.h) A) F O):
  Q (V (mG bd aU pB) (λw=>V (lQ bd aU pB []) i) j) F O:=
 have nd:=d.cn.mp r.nd
 J (Ly r.a0) (J (Lw (g:=x.aN.Z λe=> .aB e.h) (r.a0.B (by rw[d.cN,d.di];rfl))) (a _ ⟨v8 r.pr dq _,qV r.a0,nd.2,λI bH=>(r.L I (.co _ bH)).LW _⟩ ((r.L e b4).LW _) nd.1))
theorem o7.dm bn{ad:d aF} eG(aC:∀f∈ad,oi j y q.p c.s bm f)(aw:((ad++x).Z b8).c6)(bU:j[E]?=o (.aM (ad.aN.Z λe=> .aB e.h)))(ne:E≠c.s+1)(X:x.s+ad.s<=1000000)
  (a:∀A,o7 c A y q.p aX->Q (i .none A) F O):Q (V (lQ bd aU m6 [.aB E]) i j) F O:=
 J (BO r.a0 bU ne (by rw[d.a8,d.a8,d.ck,d.ck];exact X))
  (a _ ⟨v8 r.pr dq _,(qV r.a0).B (by rw[d.reverse_append,d.di]),aw,λI bH=>((d.mem_append.mp bH).aP (aC I) (r.L I)).LW _⟩)
end
theorem PN dN{F:x->aa->Prop} dE{i:G->aY x}{g t D:G}(al:∀A,j<+:A->A[j.s]?=o (.an 334 g_)->Q (i (.aB j.s) A) F O):Q (V (k9 334 vm g6) i j) F O:=
 J (Tg j g t D) (al _ cZ (mO _ _))
theorem akO a2 c3 d1 bZ eH(f:kH z r=true) eI:Cx eJ eK=true:=by
 induction a using ab.be with
 |num=>exact a3 ((FE f▸h').ou).symm ne
 |ai=>exact a3 ((FD f▸h').ou).symm ne
 |af=>obtain ⟨h,K,D,rfl,_⟩:=FA f;exact h'.ou.1▸rfl
 |@P E k T g am X=>
  obtain ⟨h,t,i,rfl,f⟩:=Fz f;obtain ⟨rfl,U,W,_⟩:=h'.ou;rcases f with f|f
  ·exact a3 (aO ae.P f) ne
  ·rw[as.d8] at f;obtain rfl:=eq_of_beq f.1;cases k with
   |true=>rw[uU am,uU W];rfl
   |false=>rw[uV am,uV W];rfl
inductive cb(C:jU):kT->kT->Prop where
 |af {n1 n2:b} {bA bB bQ ce:kT} (aw:n1≠n2):cb C (.af n1 bA bB) (.af n2 bQ ce)
 |P {n1 n2:b} {k:as} {l1 l2:lA} {T U:d ae} (aw:n1≠n2) (N:C.jH[n1]?=o (k,T)) (W:C.jH[n2]?=o (k,U)) (X:kW C T l1) (aD:kW C U l2):cb C (.P n1 k l1) (.P n2 k l2)
theorem af_ a2 c3 d1 bZ eH eI(av:Cx eJ eK=true):cb C z r:=by
 have kd:∀eG {k:as} {T:d ae},C.jH[E]?=o (k,T)->aS C (.P E)=if k then .str else .vec:=λ{E k T} a=>by cases k with
  |true=>exact uU a
  |false=>exact uV a
 induction a using ab.be with
 |num=>exact nomatch av
 |ai=>exact nomatch av
 |af=>induction h' using ab.be with
  |num=>exact nomatch av
  |ai=>exact nomatch av
  |af=>exact .af λk=>ne (aO ae.af k)
  |@P _ k _ _ W _=>rw[kd W] at av;clear W;cases k<;>exact nomatch av
 |@P _ k _ _ N X=>
  rw[kd N] at av;induction h' using ab.be with
  |num=>clear N;cases k<;>exact nomatch av
  |ai=>clear N;cases k<;>exact nomatch av
  |af=>clear N;cases k<;>exact nomatch av
  |@P _ q' _ _ W aD=>
   rw[kd W] at av;obtain rfl:k=q':=by clear N;cases k<;>cases q'<;>first|rfl|exact nomatch av
   exact .P (λk=>ne (aO ae.P k)) N W X aD
noncomputable def EQ(F O:G->aa->Prop)(eg:jI) cP:Prop:=Q (Rf A3 A2 DO ba eg j) F O
mutual
section
variable {x:d aF}{F:jI->aa->Prop}{O:G->aa->Prop}{h E D:b}{e I bL s5:G}{ot:cE G}
theorem ah2 ax bn dr{bA bB bQ ce:kT}(f:oi j y q.p c.s bm ⟨h,.af n1 bA bB,.af n2 bQ ce,D⟩) d2 eL
  (a:∀A m',o7 c A y q.p (⟨m',bA,bQ,D+1⟩::ds::x)->F (.c9 (tg e I bL aU s5 eM (o eN) (o eO) ot)) A):
  Q (NI e I bL aU ot s5 S eN eO j) F O:=by
 obtain ⟨_,_,_,ao⟩:=f.x9.at;obtain ⟨_,va,vb,N,pS,ub⟩:=f.ut.ou;obtain ⟨_,CY,Av,W,aqC,Vq⟩:=f.x_.ou;have ch:D+(max (az bA) (az bB)+1)<=100:=f.bT;refine J (ane ao) (lU (Q':=λt A=>t= .none/\∃ar,A=j.ap h ar/\ri A y q.p h vb Av D) (E':=λw w=>c5) ?_ ?_ λw w a=>a.aP)
 ·exact alI ao▸aiW cQ (M.off f.bI) N W f.x9
 ·rintro t lT ⟨rfl,ar,rfl,tk⟩;have s2:=r.upd (ar:=ar) f.bI f.ne aL;have pA:=M.a5 s2.pr;have ah:h<(j.ap h ar).s:=by rw[d.length_set];exact f.lt
  have eb:oi hh y q.p c.s bm ds:=by clear N;obtain rfl:=ub.bu;clear W;obtain rfl:=Vq.bu;exact ⟨f.bI,f.ne,tk,ub,Vq,by show D+az bB<=100;omega⟩
  obtain ⟨_,_,_,aJ⟩:=tk.at;refine J (Cz s2.a0) (J (xr pA N) (J (xr pA W) (J (U6 aJ) (J cV (PN λqL p3 eh=>kL eP λsR p4 mV=>?_)))));have l3:=b.ag (b.dh (b.cl eQ s2.lt)) (b.aT (j.ap h ar).s);refine (s2.cm eR).dm (ad:=[⟨(j.ap h ar).s,bA,bQ,D+1⟩,ds]) ?_ ?_ mV (b.bt (b.cl s2.lt (t9 p3))) (b.ag (b.add_le_add_right X 2) b9) λA s'=>a A _ s'
  ·intro k bj;rcases d.cL.mp bj with rfl|bj
   ·exact oi.bk pS aqC (kZ p4 eh) (b.ag dq (b.dh s2.lt)) (b.bt s2.lt) bP
   ·exact d.es.mp bj▸eb.a5 eR
  ·refine d.cn.aA ⟨λhm'=>?_,d.cn.aA ⟨aL,r.nd⟩⟩;rcases d.cL.mp hm' with k|k
   ·exact a3 k (b.bt ah)
   ·obtain ⟨R,aQ,k⟩:=d.cM.mp k;exact a3 k (b.et (s2.L R aQ).lt)
theorem apY{R':Type}{F:R'->aa->Prop} g7 gj{g t i sl n7:G}:∀(Ac:d dV) c2 {kk:d G->aY R'},(∀A,j<+:A->al A)->j[h]?=o (.an 334 (oZ g t hg i sl n7))->aV<=j.s->wl<j.s->
  (∀m∈Ac,ab q.p m.1.v m.1/\ab q.p m.2.v m.2/\D+1+az m.1<=100)->(∀(A:aa) (aq:d aF),j<+:A->aq.Z eT=Ac->(∀f∈aq,j.s<=f.h/\oi A y q.p aV wl f)->(aq.Z b8).c6->Q (kk (aq.Z λf=> .aB f.h) A) F O)->
  Q (V (ki al (λy1=>eE y1 λy2=>two y2 λy3 y4=>V (kF S uD) λy5=>V (kh .Add y5 f0) λy6=>V (k9 334 vm [y3,y4,y6]) λy7=>ba [y7]) (Ac.Z λm=>G.a1 eU)) kk j) F O:=by
 intro Ac;induction Ac with
 |ai=>exact λaR w w w w a=>sA eW (a _ [] eV rfl nofun .ai)
 |au k Ac ih=>
  intro j kk aR ao db hwl bj a;obtain ⟨z1,z2,rY⟩:=bj k b4;refine sy eW (J eX (J cV (PN λvg p1 bg=>?_)));have l1:=oK bg;refine ih (λA m=>aR A eY) (kZ p1 ao) (b.ag db eZ) (b.lt_trans hwl l1) (λm am=>bj m (.co _ am)) λA aq m aW aI cG=>?_;refine a A (⟨j.s,k.1,k.2,D+1⟩::aq) eY (by rw[d.map_cons,aW]) (λf aC=>?_) (d.cn.aA ⟨λah=>?_,cG⟩)
  ·rcases d.cL.mp aC with rfl|aC
   ·exact ⟨b.aT _,(oi.bk z1 z2 bg db (b.bt hwl) rY).a5 m⟩
   ·exact ⟨b.ag eZ (aI f aC).1,(aI f aC).2⟩
  ·obtain ⟨R,aQ,k⟩:=d.cM.mp ah;exact a3 k (b.bt (b.cl l1 (aI R aQ).1))
theorem QS bn dZ e1 eL{l7:b}{ps:d dV}(am:j[l7]?=o (.aM (ps.aN.Z λm=>G.a1 eU)))
  (hps:∀m∈ps,ab q.p m.1.v m.1/\ab q.p m.2.v m.2/\D+1+az m.1<=100)(hpl:ps.s<=1000){v6 Vt:G}(a:∀A ad,ad.Z eT=ps->o7 c A y q.p aX->F (.next (tg e I bL aU s5 eM (o v6) (o Vt) (o e3))) A):
  Q (GF e I bL aU s5 S v6 Vt e3 j) F O:=by
 obtain ⟨_,_,_,ao⟩:=f.x9.at;refine J (Cz r.a0) (J (nX am) (apY (aV:=c.s) (wl:=c.s+1) ps.aN (λA m=>kZ m am) ao (t9 r.pr) r.lt (λm bj=>hps m (d.dk.mp bj)) λA aq m aW aI cG=>?_));have hfl:aq.s=ps.s:=by have:=aO d.s aW;rwa [d.a8,d.ck] at this
 refine kL (by rw[d.a8,hfl];exact b.ag hpl b9) λyh p' al=>?_;have s2:=r.cm (m.B p');refine s2.dm (ad:=aq.aN) (λf aC=>(aI f (d.dk.mp aC)).2.a5 p') ?_ (by rw[d.eA];exact al) (b.bt (b.cl r.lt (t9 m))) (by rw[d.ck,hfl];exact b.ag (b.d5 X hpl) b9) λqL s3=>a qL _ (by rw[d.dj,aW,d.eA]) s3;rw[d.di,d.dj];refine d.nodup_append.aA ⟨d.pairwise_reverse.aA (d.Pairwise.imp (λa=>Ne.symm a) cG),r.nd,λl bi n a7 k=>?_⟩;obtain ⟨R,aQ,rfl⟩:=d.cM.mp (d.dk.mp bi);obtain ⟨f',hf',rfl⟩:=d.cM.mp a7;exact a3 k (b.bt (b.cl (r.L f' hf').lt (aI R aQ).1))
theorem akc(i:b) cP:jN .Is (.aB i) .none j=o (.L false,j):=rfl
theorem ake cP:jN .Is .none .none j=o (.L true,j):=rfl
theorem d9(v v':G) cP:tE cq bY [v,v'] j=o (.L (.a_ true),j):=by unfold tE;dsimp only;rw[show lW (tb uq).M 350=none by kernel_rfl,show lW (tb uq).ca 350=o GP by kernel_rfl];dsimp only;rw[aaC];rfl
theorem Py{D a g l n:b}(f:D+e8<=100)(m:l+1000*e8<=200000)(a7:n<=1000):(g<=a->D+1+g<=100)/\l+n+1000*a<=200000+1:=⟨λk=>bP,bP⟩
theorem aeS gQ gR:1+l+gT+gU=1+(l+if m=true then n+gS else 0):=by cases m<;>cases k<;>simp<;>omega
theorem ah4 ax b6 dr e9 cx bn(f:oi j y q.p c.s bm ⟨h,.P n1 false l1,.P n2 false l2,D⟩) e_(am:x.s+1000*(bV l1+1)<=200000) fa
  (N:q.p.jH[n1]?=o gs)(W:q.p.jH[n2]?=o gt)(X:kW q.p T l1)(aD:kW q.p U l2)(aQ:mW l1 l2=false->∀j,c<+:j->F dv j)
  (aR:∀A ad o1 o2 o3 nu,o7 c A y q.p aX->a9 200000 aX->l1.ak=l2.ak->pq aX=qs l1 l2+(if mW l1 l2=true then pq x else 0)->qi aX=(mW l1 l2&&qi x)->F (.next (tg e I bL aU s5 o1 o2 o3 nu)) A):
  Q (GG e I bL aU s5 S fb fd j) F O:=by
 refine lU (am9 cQ sm N W) ?_ λw w a=>a.aP;rintro t lT ⟨t8,bU⟩;have s2:=r.cm t8;rcases bU with ⟨cI,rfl⟩|⟨cI,l7,rfl,E1⟩
 ·exact J fe (aQ (as.ec.aA λk=>cI (by rw[<-X.ak,<-aD.ak];exact SE k)) _ s2.pr)
 ·have vJ:l1.ak=l2.ak:=by rw[X.ak,aD.ak,cI]
  have ah:=VP X aD;have de:(q2 l1 l2).s<=1000:=by rw[VN vJ,X.ak];exact sm.l _ dT
  rw[VO (R:=lv y) X aD,<-d.dj] at E1;refine J ff (ly (KA fg N 104 rfl) rfl (QS s2 fh bD E1 (λm k=>⟨(ah m k).1,(ah m k).2.1,(Py (n:=0) f.bT am cr).1 (ah m k).2.2⟩) de λA ad aC s'=>?_));have ps:=anh (D:=D) (x:=x) vJ aC;refine aR A ad _ _ _ _ s' (ab3 (a:=bV l1) (λR aQ=>(ah (R.z,R.u) (aC▸d.er (R:=λf:aF=>eS) aQ)).2.2) (Py (g:=0) f.bT am ?_).2 ci) vJ ps.1 ps.2;have:=aO d.s aC;rw[d.a8] at this;exact this▸de
theorem ee ax b7 dr e9 cx bn(f:oi j y q.p c.s bm ⟨h,.P n1 true l1,.P n2 true l2,D⟩) e_
  (N:q.p.jH[n1]?=o gG)(W:q.p.jH[n2]?=o gH)(aQ:decide b5=false->∀j,c<+:j->F dv j)(aR:∀A o1 o2 o3 nu,o7 c A y q.p x->decide b5=true->F fk A):
  Q (GG e I bY aU s5 S fb fd j) F O:=by
 refine lU (am8 cQ bp N W) ?_ λw w a=>a.aP;rintro t lT ⟨t8,bU⟩;have s2:=r.cm t8;rcases bU with ⟨hts,rfl⟩|⟨hts,l7,rfl,E1⟩
 ·exact J fe (aQ (bf hts) _ s2.pr)
 ·refine J ff (ly (B_ fg N 104 rfl) rfl (p7 (d9 _ _ lT) rfl (QS (ps:=[]) s2 fh bD E1 nofun cr λA ad aC s'=>?_)));obtain rfl:ad=[]:=d.map_eq_nil_iff.mp aC;exact aR A _ _ _ _ s' (bS hts)
theorem Pw{t l n p:b}(a:t+1000*(max l n+1)<=p):t+1+1000*l<=p/\t+1000*n<=p:=
 ⟨b.ag (b.ag (b.cj (b.d6 t 1 fl)) (b.ag (b.cd (by decide:1<=1000) (t+1000*l)) (b.cj (b.c8 t fl 1000)))) (b.ag (b.cd (b.dl 1000 (b.bK f9)) t) a),
  b.ag (b.cd (b.dl 1000 (b.eo gO)) t) a⟩
theorem ah3 ax b6 b7 dZ bn e1 d2(am:x.s+1000*az z<=200000) fa(ne:z.v≠u.v)(av:Cx (aS q.p z.v) (aS q.p u.v)=true)
  (aQ:kH z u=false->∀j,c<+:j->F dv j)(aR:∀A R' o1 o2 o3 nu,o7 c A y q.p R'->a9 200000 R'->pq (e0::x)=1+pq R'->(kH z u&&qi x)=qi R'->F (.c9 fj) A/\F fk A):
  Q (NJ e I bY aU ot s5 S (lv y z.v) (lv y u.v) j) F O:=by
 have bD:x.s<=900000:=b.ag c1 (b.ag am b9);refine ly (rH cQ f.ut.jP) rfl ?_;have sh:cb q.p z u:=af_ f.ut f.x_ ne av;clear ne av;induction sh with
 |af aw=>
  refine ah2 M r f aL bD λA m' s'=>(aR A _ _ _ _ _ s' ⟨?_,?_,ci⟩ ?_ ?_).1
  ·exact (Pw am).1
  ·exact (Pw am).2
  ·simp only [pq,apd aw,KP aw];exact aeS _ _ _ _ _
  ·show _=(kH _ _&&(kH _ _&&qi x));rw[KP aw,as.d7]
 |@P n1 n2 k l1 l2 T U aw N W X aD=>
  cases k with
  |false=>have bF:kH (.P n1 false l1) (.P n2 false l2)=mW l1 l2:=KO aw;refine ah4 M sm r f bD am ci N W X aD fm λA ad o1 o2 o3 nu s' p' vJ aW aI=>(aR A _ o1 o2 o3 nu s' p' ?_ (by rw[bF];exact aI.symm)).2;show st _ _+fn=_;rw[aph aw vJ,bF,aW,b.c8]
  |true=>have bF:kH (.P n1 true l1) (.P n2 true l2)=decide b5:=(KO aw).B (akF X aD gI gJ);refine ee M bp r f bD N W fm λA o1 o2 o3 nu s' k=>(aR A _ o1 o2 o3 nu s' ci ?_ (by rw[bF,k,as.eD])).2;show st _ _+fn=_;rw[apg aw,bF,k,df rfl]
end
theorem ed ax b6 b7{e I:G}{F O:G->aa->Prop}(E:b):∀d0 {bJ:b} fo c2,o7 c j y q.p x->a9 200000 x->pq x=E->bJ+E<=8388608->(∀j,c<+:j->F (.a_ (qi x)) j)->
  Q (V (lG A3 A2 (tg e I bY aU (.aG (bJ:b)) o1 o2 o3 nu)) fp j) F O:=by
 induction E using b.strongRecOn with
 |_ E ih=>
  intro x bJ o1 o2 o3 nu j r am aw hst a;cases x with
  |ai=>
   refine pT (ay:=j) ?_ ?_
   ·rw[Ov,jX fq];exact jX cs
   ·rw[abr];exact a j r.pr
  |au bo x=>
   refine qJ (ay:=j) ?_ ?_
   ·rw[Ov,jX fq,d.a8,d.ck];exact (jX cs).B (by rw[bS (aH.ey.aA (b.eC x.s))];rfl)
   ·rw[abq];refine J cV (r.pop λj r f aL=>?_);obtain ⟨i,sl,n7,ao⟩:=f.x9.at;have oS:=M.a5 r.pr;have n1:1<=pq cS:=ao8 nofun;have ch:=f.bT;refine J dC (J (apT ao) (d_ cs (bf (aH.eu.aA (aH.ex.aA (b.ag (b.cd (aw▸n1) bJ) hst)))) (J (anf ao) (ly ((alM ao).B (akd oS f.ut.jP f.x9)) rfl (J eX (d_ cs (bf (aH.eu.aA (aH.ex.aA (b.ag (b.ag c1 ch) b9)))) ?_))))));have on:∀{R':d aF} fo {A:aa},o7 c A y q.p R'->a9 200000 R'->pq cS=1+pq R'->qi cS=qi R'->Q (V (lG A3 A2 (tg e I bY aU (.aG (bJ+1:b)) o1 o2 o3 nu)) fp A) F O:=λ{R' o1 o2 o3 nu A} s' p' aW aI=>
     ih (pq R') (by rw[<-aw,aW,b.d4];exact b.ep _) s' p' rfl (b.ag (b.cj (by rw[<-aw,aW,b.c8])) hst) λj m=>aI▸a j m
    by_cases bE:bo.z.v=bo.u.v
    ·have X:=SH f.ut f.x_ bE;exact ly fr (bS bE) (on r am.2 (by show st _ _+(if _ then _ else _)=_;rw[L2 bE,df X]) (by show fs=_;rw[X,as.eD]))
    ·refine ly fr (bf bE) ?_;have bad:kH bo.z bo.u=false->∀j,c<+:j->F cT j:=λk j m=>by
      have:=a j m;rwa [show qi cS=false by show fs=_;rw[k,as.false_and]] at this
     cases av:Cx (aS q.p bo.z.v) (aS q.p bo.u.v) with
     |false=>exact p7 ft av (bad (as.ec.aA λk=>by rw[akO f.ut f.x_ k bE] at av;exact nomatch av) j r.pr)
     |true=>exact p7 ft av (ah3 M sm bp r f aL am.1 am.2 bE av bad λA R' w w w w s' p' aW aI=>⟨on s' p' aW aI,on s' p' aW aI⟩)
theorem ah8 ax b6 b7 b0 fu fv fw fx fy:
  Q (De [lv y l,lv y n,.a4 350] c) fz cw:=by
 rw[aaF];refine J (Tg c _ _ _) (J (oV _ eP) ?_);have f:(c++fB).s=c.s+1:=d.cK;have bg:=mO c fC;have p1:=l8 c fC;generalize c++fB=bM at f bg p1⊢;have bC:=mO bM (.aM fD);rw[f] at bC⊢;have r:o7 c (bM++[.aM fD]) y q.p [⟨c.s,ta,tz,0⟩]:=⟨p1.B cZ,bC,d.cn.aA ⟨nofun,.ai⟩,λe aL=>d.es.mp aL▸oi.bk pS ub (kZ cZ bg) (b.aT _) (b.et eQ) (by rw[b.eF];exact dd)⟩;have aI:pq [⟨c.s,ta,tz,0⟩]=st ta tz:=by show st ta tz+(if _ then 0 else 0)=_;split<;>rfl
 exact ed M sm bp _ (bJ:=0) r ⟨by show 0+1000*az ta<=200000;omega,trivial⟩ aI bP λj m=>⟨aO G.a_ (as.and_true _),m⟩
theorem QX ax b6 b7 b0 fu fv fw fx fy:
  Q (sV dI c) fz cw:=by
 rw[aaG];exact pK (ah8 M sm bp pS ub ej dd)
end
end
mutual
example _ h w List W τ σ q Nat i p e length n ζ r I bo D a some u v l x Q b c hl L ad d V hi k ts z cells trans Res ok met hk tv E Int t hn st jS j nil hj _ _ _ _ _ _ _ _ _ _ _ hc m ac σ' le_trans map obj hm cs list s(p:b8 f D b)A hx int g2 h1 h2 len «at» y ha hv inv o hs hz length_map{d:jU}cell grow Bool Step arr bnd hd K kids ho hu bool g ret reverse P W₀ g1 hp(d:jU)[.ag (D .cK)]absurd cons f keep made[.aH i][.bx _][h.dg rfl]cd elim h0 hq ht[λn n=>False](sm:Small b.r)Chain congrArg hb hw mpr small{v:F}[by decide]acc he hlen isA length_append set tail treeOf σ1(sm:Small b.C){e:jE}ap hN head «by» pos{y R:jD->jE->Prop}{k:F}(a6:yC b.C)(A:wu b.C)decide_eq_true e1 filter lt_of_le_of_lt off row(ih:OO D b m){i:h}{ai:c h}st' R ar decide_eq_false dk eq hg hr le_refl nodes nodup_cons tup[(g,I)][kq b.C i][.bq _ Z][p.aE pr][.aD i][.ag s][D .mC][c.prefix_refl _]hi' Inv M N Option dl getElem?_eq_getElem getElem?_set_ne hA hab hf le_of_eq mem_append_right[sL _](k:F)(aK:c h)(x:F)[nJ G][.aj [.ag (D .bJ),.ao (b.bz+1)]][nI (H:=1) c_ rfl rfl][h.bV _][D .cK][h.le_succ _][.ag f.l]Args add_assoc add_comm casesOn eq_false_iff filter_cons_of_neg filter_cons_of_pos hsame hself length_cons length_range look map_append mem_cons more not_mem_nil state toNat w₀ σ₀{ta tz:kT}[.aj []](N:oA b.r)[(s,z)][[s,z]]{I:c F}[AM [.none,.ag s] f][.aj (O.af Q++[Q u])][[ko.aj []]][aK++[A]](bv:Apart b.C x ai){x au:F}[(kq aT E,p9 .Y g)][rE V.ax aJ]{x:F}[mF G]{m:h}[mO _ _][Q u][h.zero_le _]Decidable bt d1 fmod hG if_neg if_pos isEmpty isSome le_of_ble_eq_true le_succ_of_le length_reverse lt_succ_self mem_append_left mem_singleton mul_le_mul_right ofNat_lt «do»(v:F){s z:F}[(∀e,f<+:e->y (.aO (kH ta tz)) e)][.aO A][s.bn&&z.bn][.aO false][Q s][Q z](A:aF)[.bq _ aA](G:b.r.jH[i]?=t bZ)(B:kW b.r I w)(Z:b.r.jH[X]?=t (o,us))(P:kW b.r us H)[p.cb G][p.cb Z][a f b6](an:pD u=true){j:Prop}[!decide j](O:c F)[mF k]{g:aF}[.aj (O.af Q)][ws.aR.af Q]{O ws:c F}(bw:(bW b.r).l<=900)[O++[u]][f.l+1][.ag dR][ko.aj dN][B8 p pF][.bq _ g](A:h){g:c h}(I:c F){ay:ca jD}[.aD E]{u:F}[hcs i a4][λX Z=>hcs X b1][lv D](f:jE)[.ao s][j+1][{b with bz:=b.bz+1}][yU _ _ _][nI (H:=0) c_ rfl rfl][Ak _ _ _]{ab:h}[.ag ab][λg=>by cases g][.aj (I.af Q)][x6 g][p.aE j][am.aE j][(i:S)][CO _ _][[.ag cr,Q v]][rU _](am:cu f D b s [x,au])Except G add_le_add add_le_add_left add_le_add_right add_sub_cancel all_cons append_nil cc countP_eq_length_filter da e3 filter_append getElem?_set_self hh hy le_add_left length_filter_le length_nil length_set lt_of_lt_of_le lt_of_succ_lt_succ lt_succ_of_le mem_append mem_filter mem_reverse ne_of_lt resolve_right reverse_cons reverse_reverse some_of succ_mul succ_ne_self toNat_of_nonneg zero_add[AR [.none,.ag s] f](m:h)[.aO (kH ta tz)][[.ag cr,Q s,Q z]](a:dt=false)(g:y du f)[s.mj&&z.mj](aa:e2=false)[AA m V dv dw f](w H:c F)[match y6 with|true=>aQ [(.ao 1)]|false=>aQ []][.ag m][bT _ pr][λk=>?_][λJ aA=>aV J dy][pr.L v5][.aj (vs.af Q)][.aj (ws.af Q)][(va,vb)](G:b.r.K[i]?=t fd)(ar:W b.r vb t2)[(CY,Av)](Z:b.r.K[X]?=t fg)(ap:W b.r Av u2)[λn n n g=>nomatch g][.aD X][nJ Z][nX B][pr.L j][aM.N p.N](U:htL w<m)[.ag (D (.ex i))][.ag (D (.ex X))][Ep p G][Ep p Z][p1.L pr][h.ae a_ bj][.aH X][t9 p3](pS:W b.r s ta)(ub:W b.r z tz)[AA m aX dv dw f][bd _ k][a e j][λu aN=>aM.N p.N u (c.eL.mp aN).1][A.un N av][.str (U8 v)][λP u aN=>xd a6 aM P u (c.eL.mp aN).1][[(.str vE),(.str Bm)]][⟨jM,rfl,V⟩][match d.K[i]? with|t cR=>cS|none=>[]][match d.jH[i]? with|t (_,I)=>I|none=>[]]{j g:F->aF}(a:∀x,j x=true->g x=true)[a1 d x I](N:oA d)[.aj dN][900 -s][900 -z]{u J:F}(a:J∈O\/J∈u::ws)(mH:jP b.r u){o:Role}[t c6][aI (lQ (tb A0) J m6 [.ag (D o)]) (λn=>aQ (.next (yI aX au x J fW))) f][M3 aX au x J c6 f][nJ aV][amX aV][akD _ _][λw=>t (ko.aj w)][a1 b.C x I][yI aX au ct dS ay][lG DV Ih f4][kY Ii aQ][[.aj []]][o.pr.L p3][kZ p3 o.ah][vd an][l8 _ _][xm _ _ _][am.aE oM][g▸ .bx _][.aD A]{j:F×F}(an:jP b.C x){j:c h}[kq aT i]{E:h}[nJ aJ][i::j][k▸rfl](am:cu f D b s [x,J])[b.qI d][∀i∈g,i∈ai][lv D u][qG V.ax od]{aP:jE->Prop}[rE bN.ax aJ](w:c F)[Bc .none b4 ay gq o'][⟨[],rfl⟩][rH b2 u0][qG.L (by rw[B])](a:W d v T)[nq b.C x ai][(a1 b.C x w).af d4][c.ci _ a4][λn n=>rfl](s z:S)[.ao z][s*z][S.da s z](a8:0<=j)(bR:Oa b)[br d v][b.bz+1][mE r1][w.af d4][fin _][.ao _][bT _ b6](a:D .cK=ab){T:F}[.aj eo](aa:b.r.K.l<=100000)[am.lN (H:=0) rfl][w.af Q][(ak.same (oK db) bI).L db][p.bI cq][.mz (a2 b.r T g).1.K.l][.mz i][((a2 b.r T g).1.K.l:h)](ak:aG cN l0 cM f D b)[I.af Q](U:f[m]?=t ee)(B:I.l<=1000)[(by rw[c.aB];exact h.ae B a5)][j.L g][EJ _ _ _][Gh _ _][h.le_add_right _ _][h.ae g_ U](aa:bc b.r v ai k)[nx a][vp ek f][aa.lt i G]{ay:ca (c F)}[mF a]{w H:lA}[g==o]{v u:F}[[.none,.ag s]]el ex:True:=x
open Classical in
noncomputable def br aW dp:kT:=if a:∃T,W d v T then a.choose else .Y
theorem ap6 aC bi{T:kT} gz:W d v gK:=by have an:∃T,W d v T:=⟨T,a⟩;unfold br;rw[dif_pos an];exact an.choose_spec
noncomputable def pM aW(s z:F):aF:=kH (br d s) (br d z)
structure wu(d:jU):Prop where
 m7:sS d
 Q_:∀s z ta tz,W d s ta->W d z tz->V ta tz<=8388608/\a_ ta<=100
theorem wu.un aC(A:wu d) fO bi(aw:jP d v):W d v gK:=by obtain ⟨T,a⟩:=W.hm A.m7 N aw;exact ap6 a
mutual
section
variable {f:jE}{D:kD}{b:kG}{s:h}{args:c F}
theorem ah9 al bt bC bD cZ gg(eC:jP b.C au):
  M (sV [lv D x,lv D au] f) (λo ad=>o= .aO (pM b.C x au)/\f<+:ad) ba:=by
 have CU:=A.un p.N an;have CV:=A.un p.N eC;obtain ⟨aq,ar⟩:=A.Q_ _ _ _ _ CU CV;exact QX p sm a6 CU CV aq ar
noncomputable def a1 aW cm dY:c F:=I.bG λu=> !pM d x u
theorem Su{bO:Type}{y:bO->jE->Prop}{R:jD->jE->Prop} gs bt bC bD c2{rest:c F} gu:∀bu {kk:c jD->b9 bO},b8 e D b->cu e D b s (x::rest)->(∀u∈w,jP b.C u)->(∀jJ,e<+:jJ->aP jJ)->(∀jJ,e<+:jJ->M (kk gB jJ) y R)->
  M (aI (ki aP (λau=>aI (jT b4 (.ao 0)) λv=>aI (sV [v,au]) λo=>k6 .Not o λo=>jY o λg=>(match g with|true=>aQ [au]|false=>aQ [])) gN) kk e) y R:=by
 induction w with
 |Y=>exact λn n n bT a=>sA gQ (a _ b6)
 |aZ u w ih=>
  intro e kk p am B bT a;refine sy gQ (kj am ?_);obtain ⟨o,jJ,k,rfl,j⟩:=(ah9 p sm a6 A gV (B u a4)).eR;have nx:∀{k':c jD->b9 bO},(∀yh,e<+:yh->M (k' gB yh) y R)->M (aI (ki aP _ gN) k' jJ) y R:=λa=>ih eg eh (λv aw=>B v (.bq _ aw)) (λyh g=>bT yh g7) λyh g=>a yh g7;unfold a1 at a;cases P:pM b.C x u with
  |true=>rw[c.cz (by rw[P];exact nofun)] at a;exact p7 k P hc
  |false=>rw[c.cA (by rw[P];rfl)] at a;exact p7 k P hc
theorem Cc aW cm dY:(a1 d x I).l<=I.l:=c.eE _ _
theorem alb cZ hf al bt bC bD em(aM:lB b.C au ay):mS eW f D b (uF b.C au (a1 b.C x) ay):=by
 have pF:=am.lN (H:=1) rfl;have pre:∀bA,(∀I m e,ay=t I->f<+:e->f.l<=m->e[m]?=t (.aj (I.af d4))->M (MX b4 (lv D au) e7 e) y R)->(ay=none->∀k e,oO f lq k e->R k e)->M eW y R:=λa aP=>by rw[aa6];exact nN am (nN am (mu (qW p sm pF aM a aP)))
 cases ay with
 |none=>exact pre fj λn n n a=>a
 |t I=>refine pre (λts' m e g j U B=>?_) λg=>nomatch g;cases g;have P:=Cc b.C x I;have a_:=aM.as sm;refine q fm (Su sm a6 A I eg eh fo (λjJ g=>kZ g B) λjJ p'=>kL (by rw[c.aB];exact h.ae P fv) λlT p2 k=>mu ?_);have p3:=j.L p';exact Ja (aG.aE p (p3.L p2)) pF k (p.bI fx) fx (h.ae P fv) fD fG λjM e V=>fI
noncomputable def y9 aW cm(i:h) dY:Out:=
 if (a1 d x I).l=I.l then .N a3 d else .N (nk d a3 fN).2 (nk d a3 fN).1
theorem ak3 c2 bL dL cT al bt bC bD(am:cu f D b s [x,.aH i])(G:b.C.jH[i]?=t bZ):mS cU f D b (y9 b.C x i I):=by
 have pF:=am.lN (H:=1) rfl;have aM:lB b.C a3 (t I):= .aH G;have B:=h.ae (aM.as sm) (show 1000<=1000000 by decide);have P:=h.ae (Cc b.C x I) B;have key:∀bA,(∀e,f<+:e->(a1 b.C x I).l=I.l->y (lv D a3) e)->(∀jM e,(a1 b.C x I).l≠I.l->aG f D b e jM (b.qI (nk b.C a3 f3).1)->y (lv jM (nk b.C a3 f3).2) e)->M cU y R:=λ{y R} a aP=>by
  rw[GU];refine nN am (ly dU rfl (nN am (mu (qW p sm pF aM (λts' m e g j U hl'=>?_) λg=>nomatch g))));cases g;refine q (nX hl') (Su sm a6 A I eg eh fo (λjJ g=>kZ g hl') λjJ p'=>kL (by rw[c.aB];exact P) λlT p2 k=>?_);have l3:=t9 (j.L p');have p3:=(j.L p').L p2;refine q (mE k) (nN (am.aE p3) (mu (qW (p.aE p3) sm pF aM (λts' n' sR g p4 hn' ajv=>?_) λg=>nomatch g)));cases g;have oM:=p3.L p4;refine q (mE ajv) ?_;rw[c.aB,c.aB];by_cases e':(a1 b.C x I).l=I.l
  ·exact c9 gb (bE (bd S.ofNat e')) (nN gc (a _ oM e'))
  ·refine c9 gb (bQ λg=>e' (S.ofNat.inj g)) ?_;exact nN gc (mu (Ja (aG.aE p oM) pF (kZ p4 k) (p.bI l3) l3 P fD fG λjM e V=>aP jM e e' V))
 unfold y9;by_cases k:(a1 b.C x I).l=I.l
 ·rw[dd k];exact key (λe j n=>⟨D,rfl,aG.aE p j⟩) λn n g=>aY k g
 ·rw[dc k];exact key (λn n g=>aY g k) λjM e n V=>fI
noncomputable def p9 ck:c h->F
 |[]=>k
 |E::_=> .aD E
noncomputable def ow aW ck:c h->jU
 |[]=>d
 |A::o=>ow (d.lC A (kq d A,p9 k o)) k o
end
theorem KR bL bB cl:∀d:jU,i∉aK->(ow d k aK).K[i]?=d.K[i]?:=by
 induction aK with
 |Y=>exact λn n=>rfl
 |aZ E j ih=>exact λd a=>(ih (d.lC E (kq d E,p9 k j)) λg=>a dV).L (c.cd λg:E=i=>a gd)
theorem FF bB cl:∀d:jU,(ow d k aK).jH=d.jH:=by
 induction aK with
 |Y=>exact λn=>rfl
 |aZ E j ih=>exact λd=>ih _
theorem FG bB cl:∀d:jU,(ow d k aK).K.l=d.K.l:=by
 induction aK with
 |Y=>exact λn=>rfl
 |aZ E j ih=>exact λd=>(ih _).L c.eG
theorem ai9 ck dW:∀aK:c h,p9 k cX=p9 ge aK
 |[]=>rfl
 |_::_=>rfl
theorem Ez aC{i E:h} gf(a:i≠E):kq (d.lC E j) i=kq d i:=by unfold kq;rw[show (d.lC E j).K[i]?=d.K[i]? from c.cd (Ne.symm a)]
theorem asO ck dW cl:∀d:jU,A∉aK->ow d k cX=(ow d ge aK).lC A (kq d A,k):=by
 induction aK with
 |Y=>exact λn n=>rfl
 |aZ E aK ih=>intro d a;show ow (d.lC E (kq d E,p9 k cX)) k cX=_;rw[ai9,ih _ λg=>a dV,Ez λg:A=E=>a gd];rfl
theorem aoG aW dW(j g:F×F):(d.lC A j).lC A g=d.lC A g:=by unfold jU.lC;simp [c.set_set]
theorem UJ aC{A:h} gf(a:d.K[A]?=t j):d.lC A j=d:=by unfold jU.lC;congr 1;obtain ⟨aq,ar⟩:=c.getElem?_eq_some_iff.mp a;rw[<-ar];exact c.set_getElem_self aq
theorem jU.nW.link aW ck cl:d.nW (ow d k aK):=⟨by rw[FG];exact h.bV _,by rw[FF];exact h.bV _⟩
noncomputable def nq aW cm(ai:c h):c h:=ai.bG λA=> !pM d x (kq d A)
structure Apart(d:jU)(x:F)(ai:c h):Prop where
 x:∀m∈(br d x).ai,m∉ai
 A:∀i∈ai,∀m∈(br d (kq d i)).ai,m∉ai
mutual
section
variable {f:jE}{D:kD}{b:kG}{s:h}{args:c F}
theorem QW bu{W':jU} c2 bM bL(p:b8 e D {b with C:=W'})(N:oA b.C) bt bC bD gg cY(G:i∈ai)(hil:i<b.C.K.l)(av:W'.jH=b.C.jH)(B:W'.K.l=b.C.K.l)
  (az:∀m,m∉ai->W'.K[m]?=b.C.K[m]?):M (sV [lv D x,lv D b0] e) (λo ad=>o= .aO (pM b.C x b0)/\e<+:ad) ba:=by
 have Cw:jP b.C b0:=w7 N (ai:=[i]) _ (by simp [oq]);have CU:=A.un N an;have CV:=A.un N Cw;obtain ⟨aq,ar⟩:=A.Q_ _ _ _ _ CU CV;have aqN:W W' x (br b.C x):=CU.move av λm U=>az m (bv.x m U);have aqO:W W' b0 (br b.C b0):=CV.move av λm U=>az m (bv.A i G m U);exact QX p ⟨by show W'.K.l<=_;rw[B];exact sm.A,by show W'.jH.l<=_;rw[av];exact sm.m,λj aV=>sm.s j (by rw[<-av];exact aV)⟩ (λI hts=>a6 I (by rw[<-av];exact hts)) aqN aqO aq ar
theorem ak4 cZ al bt em(aM:lB b.C au none):mS cU f D b (.sig lq):=by
 have pF:=am.lN (H:=1) rfl;have ce:au.bn=false:=by
  cases aM with
  |bad aw _ _=>exact aw
 show M _ _ _;rw[GU];exact nN am (ly dU ce (nN am (mu (qW p sm pF aM fj λn n n g=>g))))
theorem bc.bx aC bi dX bB(a:bc d v g k):p9 k g=v:=by induction a<;>rfl
theorem bc.at aC bB bL{o:c h}:∀gh bi,bc d v (j++i::o) k->d.K[i]?=t (kq d i,p9 k o):=by
 intro j;induction j with
 |Y=>
  intro v a;cases a with
  |next G T=>rw[T.bx,m8 G];exact G
 |aZ X j ih=>
  intro v a;cases a with
  |next _ T=>exact ih T
noncomputable def y_(aT:jU) cm:jU->h->c h->jU
 |d,_,[]=>d
 |d,E,i::g=>if pM aT x gi=true then y_ aT x (d.lC E c0) E g else y_ aT x d i g
theorem ag6{aT:jU} c2:∀(g:c h) aC gj,(∀i∈E::g,kq d i=kq aT i)->(E::g).Nodup->d.K[E]?=t c0->(∀j i o,g=j++i::o->d.K[i]?=t (kq aT i,p9 .Y o))->y_ aT x d E g=ow d .Y (E::nq aT x g):=by
 intro g;induction g with
 |Y=>exact λaa n aJ n=>(UJ (aa _ a4▸aJ)).symm
 |aZ i g ih=>
  intro d E aa nd aJ a9;have hcd:=aa E a4;obtain ⟨n1,n2⟩:=c.bX.mp nd;have xe:∀X∈g,X≠E:=λX Z k=>n1 (k▸ .bq _ Z);unfold y_ nq;by_cases B:pM aT x gi=true
  ·rw[dd B,c.cz (by rw[B];exact nofun)];have cC:(d.lC E c0).K[E]?=t c0:=c.eA gk;rw[ih (λX Z=>(c.cH.mp Z).a7 (λk=>by rw[k];exact m8 cC) λZ=>(Ez (xe X Z)).L (aa X (.bq _ b1))) (c.bX.bg ⟨λa=>n1 (.bq _ a),(c.bX.mp n2).2⟩) cC
    λj X o k=>(c.cd (xe X (k▸c.ci _ a4)).symm).L (a9 gl X o gm)]
   show ow ((d.lC _ _).lC E (kq (d.lC _ _) E,_)) _ _=ow (d.lC E (kq d E,_)) _ _;rw[aoG,m8 cC,hcd];rfl
  ·rw[dc B,c.cA (by rw[aF.cy.bg B];rfl),ih (λX Z=>aa X b1) n2 (a9 [] i g rfl) λj X o k=>a9 gl X o gm];show _=ow (d.lC E (kq d E,F.aD i)) _ _;rw[hcd,UJ (show d.K[E]?=t (kq aT E,F.aD i) from aJ)];rfl
mutual
section
variable {e:jE}{d:jU}{x u v J:F}{g:c h}{y R:jD->jE->Prop}
structure GZ(b:kG)(d:jU)(ai:c h):Prop where
 s:d.jH=b.C.jH
 w:d.K.l=b.C.K.l
 ak:∀m,m∉ai->d.K[m]?=b.C.K[m]?
theorem GZ.le bM(r:GZ b d ai):b.C.nW d:=⟨h.ch r.w.symm,h.ch (bd c.l r.s).symm⟩
theorem ag7 al bt bC bD bM gn cY{a0:jD} dZ(a9:bc b.C v g .Y):∀aC gj bu,aG f D b e D go->GZ b d ai->d.K[E]?=t (kq b.C E,v)->jP b.C v->E∈ai->gp->(E::g).Nodup->(∀i∈g,d.K[i]?=b.C.K[i]?)->
  (∀e,aG f D b e D (b.qI (y_ b.C x d E g))->y a0 e)->M (aI (lG DZ Io (yJ .none b4 ay a0 (lv D d0))) (kY Ip aQ) e) y R:=by
 have lO:=am.lN (H:=0) rfl;have qG:∀aC d1 bu,b8 e D go->jP d u->DZ (yJ .none b4 ay a0 gq) e=t (.N u.mj,e):=λ{d u e} p u0=>by rw[OB];exact jX (rH p u0)
 generalize bw:F.Y=b_ at a9;induction a9 with
 |stop az=>clear az;subst bw;intro d E e V r aJ ov mz _ _ _ a;have od:jP d d0:=nJ aJ;refine qJ gr ?_;rw[OA];refine q c1 (ly (rH V.ax (v:= .Y) ⟨⟩) rfl (q c1 (pT (qG V.ax (u:= .Y) ⟨⟩) ?_)));rw[OC];exact a e V
 |@next i z k g _ G T ih=>
  subst bw;intro d E e V r aJ ov mz hcs nd cB a;have od:jP d d0:=nJ aJ;have b7:=(cB i a4).L G;have bl:p9 .Y g=k:=T.bx;obtain ⟨n1,n2⟩:=c.bX.mp nd;refine qJ gr ?_;rw[OA];refine q c1 (ly (rH V.ax (nJ b7)) rfl (kj (am.step V r.le) (q c1 (q (xr V.ax b7) ?_))));have bS:=QW (b:=b) (W':=d) (ai:=ai) (i:=i) V.ax p.N sm a6 A lO bv d2 cn r.s r.w r.ak;rw[m8 G] at bS;refine lU bS ?_ λn n a=>a.a7;rintro o jJ ⟨rfl,j⟩;have bN:=V.cI j;have Lk:=(p.N.A _ c3).2;unfold y_ at a;rw[m8 G] at a;cases B:pM b.C x z with
  |true=>
   rw[B,dd rfl,bl] at a;have st2:=L6 bN (i:=E) od (s:=kq b.C E) (z:=k) ((w7 p.N (ai:=[E]) _ a4).le r.le) (Lk.le r.le);exact q gt (q (rE bN.ax b7) (q (LS bN.ax aJ k) (ih (d:=d.lC E (kq b.C E,k)) rfl st2 ⟨r.s,c.eG.L r.w,λm U=>(c.cd λg:E=m=>U (g▸mz)).L (r.ak m U)⟩ (c.eA gk) Lk mz d3 (c.bX.bg ⟨λg=>n1 dV,(c.bX.mp n2).2⟩)
    (λX Z=>(c.cd λg:E=X=>n1 (by rw[g];exact .bq _ Z)).L (cB X b1)) a)))
  |false=>rw[B,dc nofun] at a;exact q gt (ih rfl bN r (by rw[m8 G];exact b7) Lk d2 d3 n2 (λX Z=>cB X b1) a)
end
theorem aoP al bt bC bD{x J:F} bM gn cY{ay o':ca jD} bA{u b_:F} dX(a9:bc b.C u g b_):∀bu,jP b.C u->gp->f<+:e->
  (∀e u o,f<+:e->bc b.C u o b_->jP b.C u->(∀i ak,o=i::ak->pM b.C x b0=false)->nq b.C x g=nq b.C x o->(∃j,g=j++o)->M (DY gv e) y R)->
  M (aI (lG DX Im gv) (kY DY aQ) e) y R:=by
 induction a9 with
 |@stop u az=>intro e u0 _ pr a;refine pT (ad:=e) ?_ (a e _ [] pr (.stop az) u0 nofun rfl gw);rw[Oz,jX gx,az];rfl
 |@next i z k g b_ G T ih=>
  intro e u0 hcs pr a;have bS:=QW (b:=b) (W':=b.C) (ai:=ai) (i:=i) b2 p.N sm a6 A gV bv d2 cn rfl rfl λn n=>rfl;rw[m8 G] at bS;obtain ⟨o,jJ,bF,rfl,j⟩:=bS.eR;have v5:=pr.L j;have qG:DX (Bc .none b4 ay (lv D b3) o') e=t (.N (pM b.C x z),jJ):=by rw[Oz,jX gx];exact (jX ((am.aE pr).get (H:=0) rfl rfl)).L ((jX (xr b2 G)).L (jX bF))
  cases B:pM b.C x z with
  |false=>exact pT gy (a jJ _ (i::g) v5 (.next G T) u0 (λX ak k=>(c.aZ.inj k).1▸(m8 G).symm▸B) rfl gw)
  |true=>refine qJ gy ?_;rw[abP];refine q (rE (p.aE v5) G) (ih (p.N.A _ c3).2 d3 v5 λe u o j aa u0 cg P az=>a e u o j aa u0 cg ?_ (az.a7 λak k=>⟨i::ak,k▸rfl⟩));rw[<-P];unfold nq;rw[c.cz (by rw[m8 G,B];exact nofun)]
theorem ak5 cZ bM al bt bC bD em(ce:au.bn=false)(aa:bc b.C au ai .Y) cY:
  mS cU f D b (.N (p9 .Y gA) (ow b.C .Y gA)):=by
 have pF:=am.lN (H:=1) rfl;show M _ _ _;rw[GU];refine nN am (ly dU ce (nN am (mu (qW p sm pF (.chain ce aa) (λI m e n pr n n=>?_) λg=>nomatch g))));refine aoP p sm a6 A am bv aa pF (λi G=>G) pr λe u o pr bU u0 cg P az=>?_;rw[abQ];have s0:=aG.aE p pr;cases bU with
 |stop=>
  refine pT (ad:=e) ?_ ?_
  ·rw[OB];exact jX (rH b2 (v:= .Y) ⟨⟩)
  ·rw[OC,P];exact ⟨D,rfl,s0⟩
 |@next i z k o _ G T=>
  obtain ⟨j,rfl⟩:=az;have nd:=(c.nodup_append.mp aa.nodup).2.1;have B:=cg i o rfl;have aJ:b.C.K[i]?=t (kq b.C i,k):=by rw[m8 G];exact G
  refine ag7 p sm a6 A am bv T s0 ⟨rfl,rfl,λn n=>rfl⟩ aJ (p.N.A _ c3).2 gC (λX Z=>c.ci _ b1) nd gD λe V=>?_;have hkc:nq b.C x (i::o)=i::nq b.C x o:=c.cA (by rw[B];rfl);rw[P,hkc];exact ⟨D,rfl,ag6 o gD nd (by rw[T.bx];exact aJ) (λj X ak k=>by clear cg aa bv n P nd V hkc;subst k;exact T.at)▸V⟩
end
structure Oa(b:kG):Prop where
 p0:0<=b.bz
 p1:b.bz<=10000
 o:b.bJ.l<=100
theorem FU d5 gE(av:bh s=true)(be:bh z=true):kh .Mult d6 gF f=t (.N (.ao gG),f):=by show cF (λn=>kX (bh s&&bh z) (t (jD.ao gG))) f=_;rw[av,be];rfl
theorem alV d5 gE(be:0<z):kh .Mod d6 gF f=t (.N (.ao gH),f):=by show cF (λn=>kX (decide (0<z)) (t (jD.ao gH))) f=_;rw[bE be];rfl
theorem UP{i:S}(a: -1000000000<=i)(h':i<=1000000000):bh i=true:=by unfold bh;simp [a,h']
theorem Rg{s z:S}(a:0<z):0<=S.da s z/\S.da s z<z:=
 ⟨S.fmod_nonneg_of_pos s a,S.fmod_lt_of_pos s a⟩
theorem ae2{j m:S} gI(a:j+1<=m):(j.cL:S)<m/\j+1 -1=((j.cL:h):S):=⟨(S.eU a8).symm▸a,(S.es j 1).L (S.eU a8).symm⟩
theorem ae3{j:S} c4 gI(aq:j<=10000)(U:m<=100):bh d7=true/\bh (d7*d7)=true/\bh (m:S)=true:=by have be:j+1<=10001:=S.er aq 1;have ar:0<=j+1:=S.ae a8 (S.le_add_of_nonneg_right bj);have big:∀{x:S},0<=x->x<=10001*10001->bh x=true:=λs z=>UP (S.ae bj s) (S.ae z bj);exact ⟨big ar (S.ae be bj),big (S.mul_nonneg ar ar) (S.mul_le_mul be be ar bj),big (S.natCast_nonneg m) (S.ae (S.ofNat_le.bg U) bj)⟩
mutual
section
variable {cN f:jE}{l0 D:kD}{cM b:kG}
theorem QC al gJ{ab:S}(ah:0<ab):
  M (qe [.ag b5,.ao ab] f) (λo ad=>∃i:S,o= .ao i/\0<=i/\i<ab/\ad=f.bp b5 co/\aG f D b ad D d8) ba:=by
 rw[aaP];refine q (nI (H:=1) p.mC rfl rfl) (q d9 (q (wc (H:=1) p.mC (h.dj 1) rfl) ?_));have V:=apn (aG.refl p) gL;change M (MY _ _ (f.bp b5 co)) _ _;generalize f.bp b5 co=bs at V⊢;have c_:bs[D .mC]?=t co:=V.ax.mC;have r1:bs[D .bJ]?=t (.aj (b.bJ.af .ao)):=V.ax.bJ;have fin:∀s,M (aI (kh .Mod d6 (.ao ab)) aQ bs) (λo ad=>∃i:S,o= .ao i/\0<=i/\i<ab/\ad=bs/\aG f D b ad D d8) ba:=λs=>q (alV _ _ _ ah) ⟨_,rfl,(Rg ah).1,(Rg ah).2,rfl,V⟩;refine q cp (q d_ (q gM (q (Cg _ _ _) ?_)));rw[c.aB];cases bU:decide (b.bz+1<=(b.bJ.l:S)) with
 |true=>obtain ⟨P,G⟩:=ae2 bR.p0 (of_decide_eq_true bU);replace P:=S.dn.mp P;exact q d_ (q cp (q ea (q (nI (H:=b.bz.cL) (v:= .ao b.bJ[b.bz.cL]) r1 (by rw[c.getElem?_map,c.cc P];rfl) G) gO)))
 |false=>obtain ⟨s1,s2,s3⟩:=ae3 bR.p0 bR.p1 bR.o;refine q cp (q cp (q (FU _ _ _ s1 s1) (q (FU _ _ _ s2 rfl) (q cp (q (FU _ _ _ rfl s1) (q d9 (q d_ (q gM ?_))))))));rw[c.aB];exact q (FU _ _ _ rfl s3) (q d9 (q (show kh .FloorDiv gP (.ao 7) bs=t (.N gP,bs) from rfl) gO))
theorem T4 al gJ c4{w:c jD}(U:f[m]?=t (.aj w))(ne:m≠D .mC)(B:w≠[]):
  M (q3 [.ag b5,.ag m] f) (λo ad=>o∈w/\ad=f.bp b5 co/\aG f D b ad D d8) ba:=by
 rw[aaY];refine q (mE U) (lU (QC p bR (S.dn.bg (c.length_pos_iff.bg B))) (λo ad J=>?_) λn n a=>a);obtain ⟨i,k,a8,aq,hσ,V⟩:=J;obtain ⟨H,G⟩:=S.eq_ofNat_of_zero_le a8;rw[G] at aq;have P:=S.dn.mp aq;rw[k];exact q (nI (H:=H) (by rw[hσ,rS _ ne.symm];exact U) (c.cc P) G) ⟨c.getElem_mem P,hσ,V⟩
theorem UT al eb gR:jT ec (.str vG) f=t (.N (.ag (D .K)),f):=a▸uc p
theorem apa al eb gR:jT ec (.str wX) f=t (.N (.ag (D .jH)),f):=a▸CK p
theorem ahh{n1:h}{eo:c jD}{x:jD} gS{a0:c F} bA(db:f[n1]?=t gT)(bI:Off D b n1) gU(a:∀jM e,aG f D b e jM {b with r:=(a2 b.r T a0).1}->y (Q (a2 b.r T a0).2) e):∀gu {g:c F} {jM:kD} eb {pl:ca jD} bu,w.aR++g=a0->w.l+g.l<=1000->jM .cK=ab->aG f D b e jM {b with r:=(a2 b.r T g).1}->
  M (aI (forL (λe=>e[n1]?=t gT) Ig gW (Ec ec x (Q (a2 b.r T g).2) pl)) (kY Ie aQ) e) y R:=by
 intro w;induction w with
 |Y=>intro g jM ab pl e k _ _ ak;refine tH gX ?_;rw[abG];have k:g=a0:=k;rw[k] at ak⊢;exact a jM e ak
 |aZ v w ih=>
  intro g jM ab pl e k B az ak;refine tG gX ?_;rw[abH];have p:=ak.ax;have bm:(a2 b.r T g).1.K.l<1000000:=by rw[KY];exact h.bH (h.ep aa (h.ae (h.eD _ _) B)) a5
  refine q (UT p az) (q (v7 p.K) (kL a5 λlT p2 ap=>q (yV (p.aE p2).K (by rw[c.aB,c.cE];exact bm)) ?_));have s2:=apm (ak.cI p2) ap gY ak.V.as;have hs2:upd jM gZ e.l .cK=ab:=(jQ _ _ ed).L az;refine q (UT s2.ax hs2) (q (mE s2.ax.K) (q ea ?_));have bF:((((c.range ((a2 b.r T g).1.push (v,(a2 b.r T g).2)).K.l).af λi=>jD.ag (upd jM gZ e.l g0)).l:h):S) -1=g1:=by rw[c.aB,c.cE,jU.push,c.bo];exact U0 _
  have:=ih (g:=v::g) (pl:=t (Q v)) (by rw[<-k,c.eP,c.append_assoc];rfl) (by rw[c.cD,h.cw g.l,<-h.cv];exact B) hs2 s2;rw[show Q (a2 b.r T (v::g)).2= .bY [.str vE,.ao g1] from rfl,<-bF] at this;exact this
theorem EG g2 c4 cT gS g4 g5 gU:
  M (wo [.ag cr,.ag m,Q T] f) (λo ad=>∃jM,o=Q (a2 b.r T I).2/\aG cN l0 cM ad jM {b with r:=(a2 b.r T I).1}) ba:=by
 rw[aaW,we U g6,<-c.map_reverse];have s1:=ak.cI (l8 f (.aj (I.aR.af Q)));exact q (nX c5) (ahh (a0:=I) c5 (ak.ax.bI cq) aa (λjM e J=>⟨jM,rfl,s1.L J⟩) I.aR (g:=[]) (by rw[c.eQ,c.eu]) (by rw[c.di];exact B) rfl (aG.refl s1.ax))
theorem BJ g2 c4 cT dL g4 g5(aa:b.r.jH.l<=100000):
  M (um [.ag cr,.str ef,.ag m] f) (λo ad=>∃jM,o=Q (.aH b.r.jH.l)/\aG cN l0 cM ad jM {b with r:=b.r.lE bZ}) ba:=by
 have p:=ak.ax;rw[aaN];refine q (CK p) (q (v7 p.jH) (q (Cj U g6) (kL a5 λlT p2 ap=>?_)));have j:=(l8 f ee).L p2;have l1:(f++[ko.aj g3]).l=f.l+1:=c.bo;rw[l1] at ap⊢;refine q (yV (p.aE j).jH (by rw[c.aB,c.cE];exact h.bH aa a5)) ?_;have V:=apl (ak.cI j) (g:=g) (us:=I) (kZ p2 c5) gY ak.V.as ap (p.bI cs) (h.dh ak.V.as) (h.eT _);refine q (apa V.ax ((jQ _ _ ed).L (jQ _ _ ed))) (q (mE V.ax.jH) (q ea ⟨_,?_,V⟩));rw[c.aB,c.cE,jU.lE,c.bo];show jD.bY [_,.ao ((b.r.jH.l:h)+1 -1)]=_;rw[S.es];rfl
theorem agP al bA d1 dX bB(a9:bc b.r u g k):∀gh bu,j.l+g.l<=1000->f<+:e->e[f.l]?=t (.aj (j.af λi:h=>jD.ao ei))->(∀e,f<+:e->e[f.l]?=t (.aj ((j++g).af λi:h=>jD.ao ei))->y (.bY [.ag f.l,Q k]) e)->
  M (aI (lG H8 H7 (D_ aX c6 ct)) (kY H9 aQ) e) y R:=by
 induction a9 with
 |@stop u az=>intro j e _ pr B a;refine pT (ad:=e) (by rw[Ox,jX ej,jX g8,sL,az];rfl) ?_;rw[abw];rw[c.eu] at a;exact a e pr B
 |@next i s z g k G T ih=>intro j e U pr B a;refine qJ (ad:=e) (by rw[Ox,jX ej,jX g8,sL];rfl) ?_;rw[abv];rw[c.cD] at U;refine q (v7 B) (q g9 (Jp B (by rw[c.aB];exact h.bH ha a5) cq pr λlT p2 ap=>?_));have pA:=p.aE p2;rw[c.append_cons] at a;exact q (uc pA) (q g9 (q (uH pA cn) (q (BH pA G) (ih (j:=j++[i]) (by rw[c.bo,c.length_singleton,h.cv,h.cw 1];exact U) p2 (by rw[c.cG];exact ap) a))))
theorem JI al bi bM bB hb(B:b.r.K.l<=1000):
  M (wm ek f) (λo ad=>f<+:ad/\∃m,o= .bY [.ag m,Q k]/\f.l<=m/\ad[m]?=t (.aj (ai.af λi:h=>jD.ao ei))) ba:=by
 rw[aaO];exact kL c7 λe j aP=>agP p aa (j:=[]) (by rw[c.eF,h.eV];exact h.ae aa.as B) j aP λlT p2 ap=>⟨p2,_,rfl,h.bV _,ap⟩
theorem EB aC bL(G:i<d.K.l):d.K[i]?=t (kq d i,d.K[i].2):=by have a8:d.K[i]?=t (d.K[i].1,d.K[i].2):=c.cc G;rw[a8,m8 a8]
theorem QE al bb bi bM bB(aw:v.bn=false) hb bA(a:k= .Y->∀m e,f<+:e->f.l<=m->e[m]?=t (.aj ((oq b.r ai).af Q))->y e7 e)(aP:k≠ .Y->∀e,f<+:e->y .none e):
  M hd y R:=by
 rw[NV];refine nT ((rU v).L aw) (lU (JI p aa sm.A) (λo e J=>?_) λn n a=>a.a7);obtain ⟨j,m,jK,U,B⟩:=J;rw[jK];refine q (QO e k .Y) ?_;by_cases bl:k= .Y
 ·rw[bE bl];have I':=p.aE j;exact q fm (w_ (out:=λi=>Q (kq b.r i)) B (λi G=>(jX (uc I')).L ((jX (uH I' he)).L (jX (w9 I' (EB he))))) (kL (by rw[c.aB];exact h.ae aa.as (h.ae sm.A a5)) λlT p2 ap=>a bl _ lT (j.L p2) (t9 j) (by rw[oq,c.map_map];exact ap)))
 ·rw[bQ bl];exact aP bl e j
theorem QF al bb bi hf(aM:lB b.r v ay):
  M hd (λo ad=>f<+:ad/\match ay with
   |none=>o= .none
   |t I=>∃m,o= .ag m/\f.l<=m/\ad[m]?=t ee) ba:=by
 induction aM with
 |@aH i g I a=>rw[NV];exact nT el (t_ p (nJ a) (q (Ep p a) (q (Cj (p.cb a) (by rw[c.aB];exact h.ae (sm.s _ hg) a5)) ⟨l8 _ _,_,rfl,h.bV _,mO _ _⟩)))
 |chain aw a=>exact QE p sm aw a (λn m e j s z=>⟨j,m,rfl,s,z⟩) λg=>aY rfl g
 |bad aw a bl=>exact QE p sm aw a (λg=>aY g bl) λn e j=>⟨j,rfl⟩
end
theorem akI hh:w.as=H.as->mW w H=(q2 w H).all λj=>kH j.1 j.2:=
 lA.vN (aS:=λw H=>w.as=H.as->mW w H=(q2 w H).all λj=>kH j.1 j.2) (λH a=>by cases H with|Y=>rfl|aZ=>exact nomatch a) (λn n a=>nomatch a) (λT w u H i a=>bd (kH T u&&·) (i (h.succ.inj a))) w H
theorem ao5(g o:aF):j4 ef (x6 o)=hi:=by cases g<;>cases o<;>kernel_rfl
theorem UR(g:aF):j4 ef Bp=g:=by cases g<;>kernel_rfl
theorem akQ aC hj{T ak:kT} gz(h':W d u ak)(ne:v≠u)(aa:(v.mj&&u.mj)=false)(av:(v.bn&&u.bn)=false):kH T ak=false:=by
 refine aF.cy.bg λB=>?_;induction a using W.cx with
 |num=>exact aY ((FE B▸h').ou).symm ne
 |Y=>exact aY ((FD B▸h').ou).symm ne
 |aD=>obtain ⟨ab,A,E,rfl,_⟩:=FA B;rw[h'.ou.1] at aa;exact nomatch aa
 |aH=>obtain ⟨ab,o,H,rfl,_⟩:=Fz B;rw[h'.ou.1] at av;exact nomatch av
mutual
section
variable {f:jE}{D:kD}{b:kG}
noncomputable def OO(D:kD)(b:kG) eX:Prop:=∀{f:jE} dq cO bA,b8 f D b->W b.r s ta->W b.r z tz->a_ ta<m->dr->M (vo m eZ f) y R
mutual
section
variable {y R:jD->jE->Prop}{m:h}{V:jD}{s z:F}
theorem Ab{A E:aF}(k:A=E)(a:y ds f):y (.aO E) f:=k▸a
theorem Pq{j g:aF}(k:j=true)(a:(j&&g)=false):g=false:=by cases k;exact a
theorem Tp e0 e1:M (GA m V dv dw f) y R:=by
 refine nT (rU s) ?_;cases k:s.bn with
 |false=>exact g
 |true=>exact nT (A:=false) ((rU z).L (Pq k a)) g
theorem amh e3 e0 e1:M e4 y R:=by
 refine nT (sL s) ?_;cases k:s.mj with
 |false=>exact Tp a g
 |true=>exact nT (A:=false) ((sL z).L (Pq k aa)) (Tp a g)
theorem al8 e5:jN .NotEq (.ao (w.af Q).l) (.ao (H.af Q).l) f=t (.N (!decide (w.l=H.l)),f):=by rw[K4,c.aB,c.aB];exact bd (λz=>t (en.N (!z),f)) (decide_eq_decide.bg S.ofNat_inj)
theorem aeH{vs:c jD}(B:vs.l<=1000000)(a:∀k8,f<+:k8->y (.aO vs.de) k8):M (aI (alloc (.aj vs)) (λy8=>aI (alloc cP) λAx=>aI (jN .Eq y8 Ax) λMK=>aQ (.aO MK)) f) y R:=
 kL B λn p1 aU=>kL c7 λn p2 ap=>q (eq_empty (kZ p2 aU) ap) (a _ (p1.L p2))
noncomputable def OP(x0:h)(x1:jD)(y0:jD):b9 (c jD):=unpackK y0 λy1=>two y1 λy2 y3=>aI (vo x0 [x1,y2,y3]) λy4=>k6 .Not y4 λy5=>jY y5 λy6=>e6
noncomputable def Mj(j:kT×kT):jD:= .bY [Q j.1.v,Q j.2.v]
theorem akW{y R:c jD->jE->Prop}{bO:jD->jE->Prop} dx(a8:A=true->y [] f)(aq:A=false->y [.ao 1] f):M (k6 .Not ds (λy5=>jY y5 λy6=>e6) f) y bO:=by
 cases A with
 |true=>exact a8 rfl
 |false=>exact aq rfl
theorem akS bK gs(bT:∀e,f<+:e->aP e) al:∀(j:c (kT×kT)) (aV:∀J∈j,W b.r J.1.v J.1/\W b.r J.2.v J.2/\a_ J.1<m) {H:c jD->b9 jD} bu,f<+:e->
  (∀k8 bk,f<+:k8->bk.de=(j.all λJ=>kH J.1 J.2)->bk.l<=j.l->M (H bk k8) y R)->M (aI (ki aP (OP m aX) (j.af Mj)) H e) y R:=by
 intro j;induction j with
 |Y=>exact λn n n pr a=>sA e8 (a _ _ pr rfl cq)
 |aZ J j B4=>
  intro aV H e pr a;have aA:=aV J a4;refine sy e8 (show M (OP m _ (Mj J) e) _ _ from mu (ih b2 aA.1 aA.2.1 aA.2.2 λk8 v5=>akW (R:=λn n=>True) _ e9 e9))
  ·exact B4 e_ fa λk8 bk p1 bF w=>a k8 bk p1 (by rw[bF,c.et,k,aF.true_and]) (h.dh w)
  ·exact B4 e_ fa λk8 bk p1 bF w=>a k8 (.ao 1::bk) p1 (by rw[c.et,k];rfl) (h.succ_le_succ w)
theorem arR{ab m:h}{vs ws:c F} aC hh(B:kW d vs w)(P:kW d ws H)(a:f[ab]?=t fb)(h':f[m]?=t fc):
  yf [.ag ab,.ag m] f=t (.N ⟨(q2 w H).af Mj,λe=>e[ab]?=t fb/\e[m]?=t fc/\e[f.l]?=t .oB⟩,f++[.oB]):=
 (VQ a h').L (bd (λx=>t (en.N (It.mk x _),_)) (VO B P))
mutual
section
variable {i X:h}{va vb CY Av:F}{t1 t2 u1 u2:kT}{g o:aF}{I us:c F}{w H:lA}
theorem akJ bK al fe ff fh fi(l2:a_ t2<m) dx(a:∀k8,f<+:k8->y (.aO (A&&kH t2 u2)) k8):
  M (jY ds (λy3=>(match y3 with|true=>MZ m aX (.ag (D g0)) (.ag (D (.mz X)))|false=>aQ du)) f) y R:=by
 cases A with
 |false=>exact a f b6
 |true=>exact q (BH p G) (q (BH p Z) (mu (ih p ar ap l2 a)))
theorem akN bK al fe(aq:W b.r va t1) ff fh(aU:W b.r CY u1) fi(U:max (a_ t1) (a_ t2)+1<m+1)(a:∀e,f<+:e->y (.aO (kH t1 u1&&kH t2 u2)) e):
  M (AA m aX (Q b3) (Q fk) f) y R:=
 have ah:=h.eI U
 nT (A:=true) cj (nT (A:=true) cj (CF p cn (CF p fl (q (w9 p G) (q (w9 p Z) (mu (ih p aq aU (h.bH (h.le_max_left _ _) ah) λn pr=>akJ ih b2 G ar Z ap (h.bH (h.le_max_right _ _) ah) _ λn j=>a _ fn)))))))
theorem akL bb bK al dz dA dB dC fp(bm:I.l=us.l)(a:∀e,f<+:e->y (.aO (mW w H)) e):
  M (M0 m aX fq fr f) y R:=by
 have vJ:w.as=H.as:=B.as.L (bm.L P.as.symm);have p1:=l8 f .oB;have ey:=mO f .oB;refine q fs (q ft (q (arR B P dD dE) ?_));refine akS ih (λe pr=>⟨kZ fu dD,kZ fu dE,kZ pr ey⟩) (p.aE p1) _ (λJ aA=>?_) b6 λk8 bk pr k le=>aeH ?_ λe j=>?_
 ·have ab:=VP B P J aA;exact ⟨ab.1,ab.2.1,h.bH ab.2.2 U⟩
 ·exact h.ae le (((VN vJ).L B.as).symm▸h.ae (sm.s _ c3) a5)
 ·exact Ab (y:=y) ((akI vJ).L k.symm) (a _ (p1.L fn))
theorem akK bb bK al dz dA dB dC fp dx(a:∀e,f<+:e->y (.aO (A&&mW w H)) e):
  M ((match !A with|true=>(aQ du:b9 jD)|false=>M1 m aX fq fr) f) y R:=by
 cases A with
 |false=>exact a f b6
 |true=>
  refine q fs (q (mE dD) (q ft (q (mE dE) (q (al8 _ _) ?_))));by_cases bm:I.l=us.l
  ·rw[bE bm];exact akL sm ih p G B Z P U bm a
  ·rw[bQ bm];have k:mW w H=false:=aF.cy.bg λk=>bm (B.as.symm.L ((SE k).L P.as));exact Ab (y:=y) k dF
theorem akM bb bK al dz dA dB dC(U:htL w+1<m+1)(a:∀e,f<+:e->y (.aO (hi&&mW w H)) e):
  M (AA m aX (Q a3) (Q fw) f) y R:=
 nT (A:=false) cj (nT (A:=true) el (nT (A:=true) el (t_ p cn (t_ p fl (q (Bw p G) (q (Bw p Z) (c9 (S7 f _ _) (bd not (ao5 g o)) (akK sm ih p G B Z P (h.eI U) _ a))))))))
end
theorem akU cO fy fz(ne:s≠z)(a:∀e,f<+:e->y eY e) e3(av:dt=false):M e4 y R:=
 amh aa av (Ab (akQ pS ub ne aa av) dF)
theorem W.two aC{aS:F->kT->F->kT->Prop} cO(pS:W d s ta)(ub:W d z tz)(no:∀s ta z tz,W d s ta->W d z tz->e2=false->dt=false->aS s ta z tz)
  (ev:∀i va vb t1 t2,d.K[i]?=t fd->W d va t1->W d vb t2->∀X CY Av u1 u2,d.K[X]?=t fg->W d CY u1->W d Av u2->aS b3 (.aD i t1 t2) fk (.aD X u1 u2))
  (Pb:∀i g I w,d.jH[i]?=t bZ->kW d I w->∀X o us H,d.jH[X]?=t (o,us)->kW d us H->aS a3 (.aH i g w) fw (.aH X o H)):aS s ta z tz:=
by
 induction pS using W.cx with
 |num=>exact no _ _ _ _ .num ub rfl rfl
 |Y=>exact no _ _ _ _ .Y ub rfl rfl
 |aD G aq ar=>
  have u:=W.aD G aq ar;induction ub using W.cx with
  |num=>exact no _ _ _ _ u .num rfl rfl
  |Y=>exact no _ _ _ _ u .Y rfl rfl
  |aD Z aU ap=>exact ev _ _ _ _ _ G aq ar _ _ _ _ _ Z aU ap
  |aH Z P=>exact no _ _ _ _ u (.aH Z P) rfl rfl
 |aH G B=>
  have u:=W.aH G B;induction ub using W.cx with
  |num=>exact no _ _ _ _ u .num rfl rfl
  |Y=>exact no _ _ _ _ u .Y rfl rfl
  |aD Z aU ap=>exact no _ _ _ _ u (.aD Z aU ap) rfl rfl
  |aH Z P=>exact Pb _ _ _ _ G B _ _ _ _ Z P
theorem akX bb bK al cO fy fz:s≠z->a_ ta<m+1->dr->M fA y R:=
 pS.two (aS:=λs ta z tz=>s≠z->a_ ta<m+1->dr->M fA y R) ub (λn n n n pS ub aa av ne n a=>akU pS ub ne a aa av)
  (λn n n n n G aq ar n n n n n Z aU ap ne U a=>akN ih p G aq ar Z aU ap U λe j=>Ab (y:=y) (KP λk=>ne fB) fC)
  (λn n n n G B n n n n Z P ne U a=>akM sm ih p G B Z P U λe j=>Ab (y:=y) (KO λk=>ne fB) fC)
end
theorem akA bb:∀m,OO D b m:=by
 intro m;induction m with
 |zero=>exact λn n n a=>aY a (h.not_lt_zero _)
 |succ m ih=>
  intro f s z ta tz y R p pS ub U a;rw[aaV];refine q (QO f s z) ?_;by_cases cf:s=z
  ·rw[bE cf];exact Ab (SH pS ub cf) dF
  ·rw[bQ cf];exact akX sm ih p pS ub cf U a
theorem ahg al cQ bb(A:wu b.r) dq(av:jP b.r s)(be:jP b.r z)(eB:∀v T,W b.r v T->a_ T<100):
  M (yl eZ f) (λo ad=>o= .aO (pM b.r s z)/\f<+:ad) ba:=
 akA sm 100 p fE (A.un N be) (eB _ _ fE) λn j=>⟨rfl,j⟩
noncomputable def pD dp:aF:=v.mj||v.bn
theorem apW d5 dp:jN .In fF (.bY fH) f=t (.N (pD v),f):=by have k1:=sL v;have k2:=rU v;show cF (λf=>uP f fF fH) f=_;unfold cF;clear k1 k2;cases v<;>kernel_rfl
noncomputable def aL aW:F->c F
 | .aD i=>match d.K[i]? with
  |t cR=>cS
  |none=>[]
 | .aH i=>match d.jH[i]? with
  |t (_,I)=>I
  |none=>[]
 |_=>[]
theorem Ce aC bL dq(a:d.K[i]?=t cR):aL d b3=cS:=by show fJ=_;rw[a]
theorem Fv aC bL dL cT(a:d.jH[i]?=t bZ):aL d a3=I:=by show fK=_;rw[a]
theorem Sw aC{u v:F}(a:Ch d u v):u∈aL d v:=by
 induction a with
 |om a=>exact Ce a▸ .bx _
 |pC a=>exact Ce a▸ .bq _ a4
 |hl a aN=>exact Fv a▸aN
theorem Sv{aS:F->c F->Prop} aC d1(N:jP d u) dG(A:∀i s z,d.K[i]?=t cR->aS b3 cS)(E:∀i g I,d.jH[i]?=t bZ->aS a3 I):aS u (aL d u):=by
 cases u with
 |num i=>exact nomatch an
 |Y=>exact nomatch an
 |aD i=>have a:=c.cc N;exact Ce a▸A i _ _ a
 |aH i=>have a:=c.cc N;exact Fv a▸E i _ _ a
theorem Qu dH[c8 j](a:¬j):dI=true:=by rw[bQ a];rfl
theorem QB dH[c8 j](a:j):dI=false:=by rw[bE a];rfl
theorem amN dH[c8 j](a:dI=true):¬j:=λk=>aY ((QB k).symm.L a) aF.false_ne_true
noncomputable def left aW dJ:h:=((bW d).bG λv=> !decide (v∈O)).l
theorem Qd fL fM:∀w:c F,(w.bG j).l<=(w.bG g).l:=λw=>by rw[<-c.ew,<-c.ew];exact c.countP_mono_left λx n=>a x
theorem agl fL fM bi(aq:j v=false)(ar:g v=true):∀w:c F,v∈w->(w.bG j).l<(w.bG g).l:=by intro w aw;obtain ⟨s,z,rfl⟩:=c.append_of_mem aw;rw[c.ez,c.ez,c.bo,c.bo,c.cz (aF.cy.mp aq),c.cA ar];exact h.add_lt_add_of_le_of_lt (Qd a s) (h.eJ (Qd a z))
theorem SA aC{O:c F} bi(aw:v∈bW d)(ah:v∉O):left d (O++[v])<left d O:=
 agl (j:=λu=> !decide (u∈O++[v])) (g:=λu=> !decide (u∈O)) (λx a=>Qu (λk=>amN a (c.dk _ k))) (QB gC) (Qu ah) _ aw
theorem akD aW dJ:left d O<=(bW d).l:=c.eE _ _
theorem amj aW:(bW d).l=d.K.l+d.jH.l:=by unfold bW;simp
theorem Cf aC fO hj(a:u∈aL d v):jP d u:=by
 cases v with
 |aD i=>
  cases k:d.K[i]? with
  |none=>rw[show aL d b3=[] by show fJ=_;rw[k]] at a;exact aY a c.cJ
  |t j=>rw[Ce k] at a;exact (c.cH.mp a).a7 (λa=>a▸(N.A _ dK).1) λa=>c.dl.mp a▸(N.A _ dK).2
 |aH i=>
  cases k:d.jH[i]? with
  |none=>rw[show aL d a3=[] by show fK=_;rw[k]] at a;exact aY a c.cJ
  |t j=>rw[Fv k] at a;exact N.s _ dK u a
 |num i=>exact aY a c.cJ
 |Y=>exact aY a c.cJ
structure OS(f e:jE)(d:jU)(O ws:c F):Prop where
 pr:f<+:e
 ah:e[f.l]?=t dM
 bf:e[f.l+1]?=t fP
 N:∀u∈ws,jP d u
 ml:O.l+left d O<=1000
 kd:∀ab∈O,∀u∈aL d ab,pD u=true->u∈O\/u∈ws
 wl:ws.l<=(900 -left d O)*1000+1
theorem ae0{s z w H m:h}(a:z<s)(U:m+s<=1000)(av:s<=900)(B:w+1<=fQ*1000+1)(P:H<=1000):m+1+z<=1000/\H+w<=fR*1000+1/\z*2000+(H+w)<s*2000+(w+1)/\w+H<=1000000/\m<1000000:=by have B:w<=fQ*1000:=h.le_of_succ_le_succ B;have az:900 -s+1<=900 -z:=h.sub_lt_sub_left (h.eH a av) a;have ah:w+H<=fR*1000:=h.ae (h.ep B P) (h.ae (h.ch (h.eS _ _).symm) (h.dm 1000 az));refine ⟨h.ae (h.ch (h.cv m 1 z)) (h.ae (h.eq (h.cw 1 z▸a) m) U),h.dh (h.cw H w▸ah),?_,h.ae ah (h.ae (h.dm 1000 (h.sub_le 900 z)) a5),h.bH ha a5⟩;exact h.eJ (h.cv _ _ _▸h.er (h.ae (h.eq (h.ae P (h.dg rfl:1000<=2000)) _) (h.ae (h.ch (h.eS z 2000).symm) (h.dm 2000 a))) w)
theorem R1 dO fS fT(ks:c F):J∈O++[u]\/J∈ks++ws:=
 a.a7 (λa=> .inl (c.dk _ a)) λa=>(c.cH.mp a).a7 (λa=> .inl (c.ci _ (a▸ .bx _))) λa=> .inr (c.ci _ a)
theorem R0 dO fS fT(aA:pD J=true)(aN:pD u=true->u∈O):J∈O\/J∈ws:=
 a.a7 .inl λa=>(c.cH.mp a).a7 (λa=> .inl (a▸aN (a▸aA))) .inr
mutual
section
variable {e:jE}{O ws:c F}{u v:F}{au:jD}{y:jI->jE->Prop}{R:jD->jE->Prop}
theorem amX{α β:Type}{a0:α->β}{ay:ca α}{x:α}(a:ay=t x):(ay.af a0).df=true:=a▸rfl
theorem an6 e5:H.aR.af Q++w.af Q=(w.aR++H).aR.af Q:=by rw[c.reverse_append,c.eQ,c.cG]
theorem aod al{x J:jD} fU dG:(a:∀fV,(cont D b o).df=true->f[D o]?=t (.aj ((aL b.r u).af Q))->M fX y R)->
  M fY y R:=
 Sv (aS:=λu w=>(∀fV,(cont D b o).df=true->f[D o]?=t (.aj gW)->M fX y R)->M fY y R) mH an
  (λi s z aV a=>nT (A:=true) cj (CF p fZ (a (o:= .mz i) f0 (p.mz aV))))
  (λi g I aV a=>nT (A:=false) cj (t_ p fZ (q (Ep p aV) (a (o:= .cb i) f0 (p.cb aV)))))
theorem anZ al cQ bb dP(pr:f<+:e)(ah:e[f.l]?=t dM)(bf:e[f.l+1]?=t fP)(rk:∀J∈ws,jP b.r J) fU(ml:O.l+left b.r O<=1000)
  (kd:∀ab∈O,∀J∈aL b.r ab,pD J=true->J∈O\/J∈u::ws)(wl:ws.l+1<=(900 -left b.r O)*1000+1) dG(vM:u∉O)
  (a:∀e,OS f e b.r dQ ((aL b.r u).aR++ws)->left b.r dQ*2000+((aL b.r u).aR++ws).l<left b.r O*2000+(ws.l+1)->y (.next (yI aX au ct dS fW)) e):
  M (M4 aX au ct dS c6 e) y R:=by
 have bP:=ae0 (SA (xH mH an) vM) ml (h.ae f1 bw) wl (Sv (aS:=λn w=>w.l<=1000) mH an (λn n n n=>h.dg rfl) λn n n a=>sm.s _ hg);have ne:f.l≠f.l+1:=h.eN (h.dj _);have as:((aL b.r u).aR++ws).l=(aL b.r u).l+ws.l:=by rw[c.bo,c.di]
 refine q (v7 ah) (q (yV ah (by rw[c.aB];exact bP.2.2.2.2)) ?_);have Lx:f<+:e.bp f.l cV:=v8 pr cq _;have BW:(e.bp f.l cV)[f.l]?=t (.aj ((O++[u]).af Q)):=(qV ah).L (bd f2 (c.cG (l₁:=O) (l₂:=[u])).symm);have E2:=(rS cV ne).L bf;generalize e.bp f.l cV=e at Lx BW E2⊢;exact q (Cz E2) (aod (p.aE Lx) mH an λbU aJ=>q (BO E2 aJ (h.eN (h.eH (p.lt bU) cs)) (by rw[c.aB,c.aB,c.di];exact bP.2.2.2.1))
  (a _ ⟨v8 Lx cs _,(rS _ ne.symm).L BW,(qV E2).L (bd f2 (an6 _ _)),λJ aA=>(c.eK.mp aA).a7 (λg=>Cf N (c.eM.mp g)) (rk J),(bd (· +left b.r dQ) c.bo).symm▸bP.1,
   λab ah J aA xC=>(c.eK.mp ah).a7 (λah=>R1 (kd ab ah J aA xC) _) λah=> .inr (c.dk _ (c.eM.bg (c.dl.mp ah▸aA))),as▸bP.2.1⟩ (as▸bP.2.2.1)))
theorem anY al cQ bb dP bA(a:∀(e:jE) dJ,f<+:e->e[f.l]?=t dM->O.l<=1000->(∀ab∈O,∀u∈aL b.r ab,pD u=true->u∈O)->(pD v=true->v∈O)->y ct e) eX:
  ∀dO dZ bu,left b.r O*2000+ws.l=m->OS f e b.r O ws->(pD v=true->v∈O\/v∈ws)->
  M (aI f5 f6 e) y R:=by
 induction m using h.strongRecOn with
 |_ m ih=>
  intro O ws ay e U o vd;have p3:=l8 e cP;have bf:=kZ p3 o.bf;have qG:DV f4 e=t (.N (!(ws.aR.af Q).de),e++f7):=by rw[abJ,jX (oV e c7)];exact jX (FW bf c5)
  cases ws with
  |Y=>refine pT qG ?_;rw[abK];exact a _ O f8 f9 (h.ae g_ o.ml) (λab ah u aN an=>(o.kd ab ah u aN an).eO nofun) λan=>(vd an).eO nofun
  |aZ u ws=>
   have k:(u::ws).aR.af Q=ws.aR.af Q++[Q u]:=by rw[c.eP,c.cG];rfl
   rw[k] at bf;refine qJ (ad:=e++f7) (qG.L (by rw[k];cases ws.aR.af Q<;>rfl)) ?_;rw[abI];refine q (Ly bf) (q (Lw bf) ?_);have t8:f<+:(e++cW).bp dR dT:=v8 f8 cs _;have hm2:=(rS dT (h.eT f.l)).L f9;have RM:=qV bf (ay:= .aj dN);have mH:=o.N u a4;have old:(pD u=true->u∈O)->∀dZ,M (aI f5 f6 ((e++cW).bp dR dT)) y R:=λaN=>
    ih _ (by rw[<-U,c.cD];exact h.dj _) rfl ⟨t8,hm2,RM,λJ aA=>o.N J dy,o.ml,λab ah J aA xC=>R0 (o.kd ab ah J aA xC) xC aN,h.ae cs o.wl⟩ λan=>R0 f_ an aN
   refine q ej (q (apW _ _) ?_);cases an:pD u with
   |false=>exact old (an▸nofun)
   |true=>
    refine q (amf hm2 u) ?_;by_cases vM:u∈O
    ·rw[bE vM];exact old λn=>vM
    ·rw[bQ vM];exact anZ p N sm bw t8 hm2 RM (λJ aA=>o.N J dy) mH o.ml o.kd o.wl an vM λe r' g=>ih _ (by rw[<-U,c.cD];exact g) rfl r' λan=>R1 f_ _
end
theorem an0 al cQ bb dP bi(aw:jP b.r v):
  M (yo ek f) (λo ad=>f<+:ad/\∃m ms,o= .ag m/\f.l<=m/\ad[m]?=t (.aj (ms.af Q))/\Dk b.r ms/\(pD v=true->v∈ms)/\ms.l<=1000) ba:=by
 rw[aaZ];refine q (oV f c7) (q (oV _ a5) ?_);have k:(f++cW).l=f.l+1:=c.bo;have aU:=mO f cP;have p1:=l8 f cP;generalize f++cW=bs at k aU p1⊢;have ap:=mO bs (.aj [Q v]);rw[k] at ap⊢;exact anY p N sm bw (λe O j ah B P aw=>⟨j,_,O,rfl,h.bV _,ah,λx u an aa hxx=>P x an u (Sw aa) (aF.or_eq_true _ _▸hxx),aw,B⟩) _ (O:=[]) (ws:=[v]) rfl ⟨p1.L ga,kZ ga aU,ap,λu aN=>c.dl.mp aN▸aw,by rw[c.eF,h.eV];exact h.ae f1 (h.ae bw bj),nofun,h.eD _ _⟩ λn=> .inr a4
end
end
mutual
example _ τ w h σ k D q e x List Q ts a A ad I Res some bo i u v l p n y s E hl jD Nat ζ obj length trans m hi g os sm nil ok r Int tv W o z(p:Inv d o b)grow hn vs _ _ _ _ _ _ _ _ _ _ _ bnd Step ac Due ho t(N:Small b.f)V R c[o .state]cs list[by kernel_rfl]hk rs' int map hc «at» hr[E.ec rfl]σ' hq le_trans ret sig[.G ak]cons[.aL t]absurd g3 hv j off[.G m]{M:j (bb (j ah))}arr hx[[i]]key length_map yes M cells f hm{l:j ah}{a:jE}{k B:D->jE->Prop}[.G y]at_ elim h0 hlt mpr{i:ah}[⟨rfl,j.c9 _⟩]bt decide_eq_false decide_eq_true if_neg word(n:nP d o b m args)Option cell congrArg cut h1 hj keep{i z:ah}[nJ K][(t:R)][mO _ _][λF F=>co]b hA hg hlen if_pos items len out{U:bb (j ah)}{t:E}[.str a_]«by»{y:E}hr' Out Rows drop h2 hb hp hu hw isA not_lt ofNat_lt reverse[.am (l.ar S)](n:nP d o b m aN)[Q.H+1][wk [.G ak,.str a_,.G m] d]{e:R}[.str lq]{Z:j D}hl' enc flatMap get hh ht inj inv refl replicate same take{T:jU}(n:nP d o b m [i,z])[⟨rfl,x⟩][(e:R)][S aD][j.c9 _][xm _ _ _][E.lt_succ_self 1]{al:j E}{h:ah}{z:ah}{v:ah}[S v][EU _ _ _][Mf _ _][bb (j ah)](c:nh a Z M)Bool Chain False g2 getElem?_eq_getElem hs tail w₀ σ₀[pK c][E.ay N.aj av][E.ay N.y av][.head _](P:oA b.f)(aj:wu b.f)(bY:∀v af,jS b.f v af->bZ af<100)(i:D)[AH [.G ak,S i,S z] d][QF p N ae][S z](K:b.f.jH[t]?=r (g,l))[mF K][S u][p2.I p3][(g.ar λt:E=>D.aq bk)][.aq bk][p.X pr][l8 _ _]{J:E}{ai:Type}[r aH][M.any λU=>U.eb]F alloc d da dl eq_ofNat_of_zero_le flat getElem?_map guard hbad hd hf id made map_reverse natCast_nonneg ofNat prefix_refl step succ toNat zero{e:D->aR D}[.G w]{e:j D->aR ai}{U:bB}[n.X x]{rs:j D}[hts l h][.aC ae .O](ae:lB b.f i U){L:jE->Prop}{α:Type}«do»[aj u](aM:jP b.f i){z:D}(ae:lB b.f z none)[.aA lq][i::Q][S i][show jN .Is aY .none a=r (.P false,a) from rfl]{k:D->jE->Prop}[⟨jM,m,bn⟩][e+1][.aq 1][KD (e:=0) av rfl rfl][pz.I g][[.G ak,S z]](c:q (e ch d) k B)[yq [.G ak,S aD] d][.aL b.f.jH.H]{e:E}{a_:Str}[.str (x6 g)][p.cW K][n.lN (e:=0) rfl][⟨_,j.cq dL⟩][⟨h▸R.c7 J,h▸R.bL.a3 aU⟩]{e:D->aR ai}[ab.b2 p][.am w](c:d[y]?=r dQ)[.G J][x.I p'][.G d.H][j ah][ry aY][Jl c][by decide]Except G as e1 fl flatMap_cons g1 getLast? h3 hG hW hy hz isNone le_of_ble_eq_true le_of_lt length_append length_reverse length_set map_replicate not_le of_decide_eq_true toNat_natCast[λy3=>az [y3]][oV d C][r dA][jT m (.aq 0)][.am d0][kZ x d8](C:args.H<=1000)(ae:bC b.f args M){w:j D}[e de a][E.ay aG av][l9 [.G ak,.str uC,.G m] d]{aj:cm}[D.str wJ][l.ar S][l9 [.G ak,.str a_,.G m] d][l9 [.G ak,.str uB,.G m] d][⟨o,by rw[j.aP];rfl,ab.X p x⟩][sY n cv]{Z:j ah}{af:ah}[Z++[af]][M++[U]][⟨[],_,rfl,.O⟩](hts:∀l,lu M=r l->l.H<=1000)[l9 [.G ak,.str lJ,.G m] d][λQ aw=>∃jM,Q=S (nk b.f v l).2/\ab cu l0 ct aw jM {b with f:=(nk b.f v l).1}][lu M][(lu M=none->∀a,d<+:a->k bS a)][agC ap r'][.am ap][(by rw[j.aP];exact E.ay dj av)][n.X pz][λF a x=>b8][l9 [.G ak,.str wN,.G m] d][⟨_,_,rfl,af⟩][v9 aB aJ (λw=>vW w (e w)) d][h▸C][nI (e:=0) C rfl rfl][ae.bt N][x.I cN]{U o':bb dV}(ho':lB b.f i o')(ae:lB b.f z U)[l9 [.G ak,.str wM,.G m] d]{k:ai->jE->Prop}{B:D->jE->Prop}(w:j α)[bp _ x](T:jU)(Q:j D)[⟨rfl,V.2⟩][λQ a V=>?_][show jN .Is .none .none a=r (.P true,a) from rfl][r l](ae:lB b.f z fc)[r 1]{g:cm}[AH [.G ak,S i,S aD] d][Cc b.f i l][bh b.f i l][.aL K][λu=>u5 b.f i u cI][(by rw[j.aP];exact E.ay ao av)][(l.H:R)][ab.X p pz][.am (ks.ar λt:E=>D.aq bk)][.G n2][Ba aB i z V none o1 fp o2](g:j E)[∀t∈g,t<T.aS.H][λa=>a[n2]?=r fo][oK hks](w:j D)[w++aN][uc p][EB a2][r (-1)][.cs _ bg][yU _ _ _][Cm _ _ _](b:kG)[0+1](bo:z.bJ=false)(as:cn b.f z al .O)[nq b.f i al][.chain bo as][p.X x][kq b.f t][(w++aN).H -fE][p.aI (t9 py)][py.I p3][kZ oM mV][⟨o,rfl,s4.more oM⟩][aa (vp dD) e d][λF a x=>x.2.a0 λy g=>g.1▸c y a x.1 g.2.1 g.2.2][{b with f:=T}][.aq 0]{u:ah}[.aq (-1)][yq dD d][l.bM.ar S][u9 (UR g) ?_][N.m _ cH][t9 pr][lY _ _ _ _ _ a][(by rw[j.aP];exact cr)][(false,l)][ab.X p pr][(true,l.bM)][(st.b4 (oK Y) aI).I Y](c:args[e]?=r v){Q:j ah}(n:nP d o b m du)[[.G ak,.str a_,.G m]][.str A][R.bK.a3 (R.c7 J)][S8 _ u .O][(sL u).I cr][E.succ_pos J][a8 rfl][.bc t][sL gg]{aw:jE}[(J+1:E)][e'.I g](as:cn b.f i al h)[wk [.G ak,.str tn,.G m] d][⟨rfl,rfl⟩][s cj ?_][sY n go][g.symm.I c][.G (o (.cW t))][oK n.aZ](bI:j4 a_ uy=false)[0<=e/\e<l.H][.str nC][Cg _ _ _][a8 a1][s fC ?_][.str tn][.str yR][.tup [gz,gA]][(.P true,d)]{w l':j D}{aH:R}[wk [.G ak,.str sr,.G m] d][wk [.G ak,.str uy,.G m] d][b.f.n6 t (g,j.b3 l.H z)](C:l'.H<=1000000)[t9 x][r (.aq aH)][λi=>az aN][EV bp][d++[.am l']][(j7 ih).I rfl][.am Z](aU:a[J]?=r gP)[by omega]:True:=x
noncomputable def ad(Q:bb (dZ D D×jE))(d:jE)(o:kD) fD:bB->Prop
 | .P v T=>q Q (λi aw=>∃jM,i=S v/\ab d o b aw jM fS) bm
 | .aA A=>q Q (λi aw=>i= .str A/\d<+:aw) bm
structure nP(d:jE)(o:kD)(b:kG)(m:E)(args:j ah):Prop where
 aZ:d[m]?=r (.am (args.ar S))
 aI:Off o b m
 P:∀v∈args,jP b.f v
theorem asn{e y:E}:clamp b9 y=min e y:=rfl
theorem Ql dn cC e9:be du none fe=aN:=by show ((i::Q).bD 0).b5 (min 1 bP -0)=_;rw[show min 1 bP -0=1 by omega];rfl
theorem agE cC e9:be du fe none=Q:=by show ((i::Q).bD (min 1 bP)).b5 (bP -min 1 bP)=_;rw[show min 1 bP=1 by omega];show Q.b5 (Q.H+1 -1)=Q;simp
theorem agC fv cC:be fw none fz=w:=by show ((w++aN).bD 0).b5 ((w++aN).H -fE -0)=_;simp
theorem agF fv cC:be fw fz none=aN:=by show ((w++aN).bD fL).b5 ((w++aN).H -fL)=_;simp
theorem Jv dn{Q:bb (dZ D α×jE)}{k Q':α->jE->Prop}(c:q Q k λF F=>co)(L:∀m a,k m a->Q' m a):q Q Q' λF F=>co:=c.mono L λF F c=>c
mutual
section
variable {cu d:jE}{l0 o:kD}{ct b:kG}{m:E}{args:j ah}
theorem nP.bX ba dH cg f7{t:R}(K:t=b9):jT aJ (.aq t) d=r (.P ch,d):=
 nI n.aZ (by rw[j.cZ,c];rfl) K
theorem nP.lN ba dH cg f7:jP b.f v:=n.P v (mF c)
theorem nP.X ba gi(x:d<+:aw):nP aw o b m args:=⟨kZ x n.aZ,n.aI,n.P⟩
theorem nP.c_ ba gi{jM:kD}{w':kG}(A:ab d o b aw jM w')(le:b.f.nW w'.f):nP aw jM w' m args:=
 ⟨by rw[A.b4 gs n.aI];exact n.aZ,A.aI gs n.aI,λv aG=>(n.P v aG).le le⟩
theorem CJ cP bz gD gE dO dR(as:be w none cQ=l') gI:lY aY none gK none e d=e dU gN:=by show aa dW _ d=_;rw[jX dX];show aa (cT (.am (be w none cQ))) e d=_;rw[as,jX em]
theorem UK cP bz gD gE dO dR(as:be w cQ none=l') gI:lY aY gK none none e d=e dU gN:=by show aa dW _ d=_;rw[jX dX];show aa (cT (.am (be w cQ none))) e d=_;rw[as,jX em]
theorem Mx cP bz et df dR:unpackK aY e d=e w d:=by show aa dW e d=_;rw[jX dX]
theorem aeB b6 cg aV(c:v.bJ=false):nk T v l=c5 T .O l:=by cases v<;>first|rfl|cases c
theorem BI(A:ab cu l0 ct d o b) bz cg aV(aG:jP b.f v)(Y:d[y]?=r bN)(C:l.H<=1000) ag:
  q (uh [.G ak,S v,.G y] d) eL bm:=by
 have p:=A.b1;rw[aaL];have mk:v.bJ=false->q (M5 aB aY d) eL bm:=λc=>by rw[aeB c];exact pK (EG A (af:= .O) Y C cw)
 refine nT (rU v) ?_;cases v with
 |aL t=>obtain ⟨⟨g,us⟩,bG⟩:∃x,b.f.jH[t]?=r x:=⟨_,j.cq aG⟩;rw[I_ bG];exact t_ p (nJ bG) (s (Bw p bG) (pK (BJ A Y C cx)))
 |num t=>exact mk rfl
 |O=>exact mk rfl
 |bc t=>exact mk rfl
theorem JE{α ai:Type}{bV:α->D}{bu:α->j D} dm{aT:D->aR (j D)} e4 e5(bp:∀a,d<+:a->L a):∀e6 aW df,d<+:a->(∀i∈w,∀a,d<+:a->q (aT (bV i) a) (λv jJ=>v=bu i/\a<+:jJ) λF F=>co)->(∀a,d<+:a->q (e (w.bW bu) a) k B)->q (aa (ki L aT (w.ar bV)) e a) k B:=by
 intro w;induction w with
 |O=>exact λx F c=>sA e7 (c _ x)
 |aC i w ih=>intro a e x c3 c;refine sy (Q:=w.ar bV) e7 ((c3 i cy a x).mono (λv jJ V=>?_) λF F c=>c);rw[V.1];exact ih (e:=λaf=>e (bu i++af)) (x.I V.2) (λz d_=>c3 z (.cs _ d_)) λa g=>j.d4▸c a g
noncomputable def u5 e8(i u:ah)(z:D):j D:=match pM T i u with
 |true=>[]
 |false=>[z]
theorem Lr dn e8(i:ah)(h:α->D)(aj:α->ah) e6:w.bW (λu=>u5 T i dp (h u))=(w.filter λu=> !pM T i dp).ar h:=by
 induction w with
 |O=>rfl
 |aC u w ih=>rw[j.d4,ih,j.filter_cons];unfold u5;cases pM T i dp<;>rfl
theorem KQ W cz ag cA cB{i u:ah} dq(bH:jP b.f u) dr:
  q (aa (yl [.G ak,S i,S u]) (λy2=>k6 .Not y2 λy3=>jY y3 λy4=>(match y4 with|true=>az [z]|false=>az [])) d) (λv a=>v=u5 b.f i u z/\d<+:a) bm:=
 lU (ahg p P N aj aM bH bY) (λQ a V=>by
  rw[V.1];unfold u5;cases pM b.f i u with
  |true=>exact e_
  |false=>exact e_) λF F c=>c
theorem ahe W ag bi ds:ad cD d o b dt:=by show q _ _ _;rw[NU];refine lU cE fa λF F c=>c;rw[V.2];exact s fb ⟨rfl,V.1⟩
theorem QA W ag bi aV fd aX(c:∀y a,d<+:a->d.H<=y->a[y]?=r bN->q ((match z.bJ with|true=>M7 aB dv cF aY|false=>M8 aB dv cF aY) a) k B):q cD k B:=by rw[NU];refine lU cE fa λF F c=>c.a0;obtain ⟨x,y,h,Y,C⟩:=V;rw[h];exact s dw (nT (rU z) (c y a x Y C))
theorem ahd W cz ag cA cB a4 dq bw ff aV cG:
  ad fg d o b (y9 b.f i t l):=by
 have C:l.H<=1000:=N.m _ cH;have ao:=E.ay fh C;have aO:∀dx,((bh b.f i l).H=l.H->∀a,d<+:a->k b_ a)->((bh b.f i l).H≠l.H->∀Q jM a,Q=S (nk b.f aD fi).2->ab d o b a jM {b with f:=(nk b.f aD fi).1}->k Q a)->q fg k bm:=λ{k} c L=>
  QA p N fj λy a x Y E0=>s (nX E0) (JE (d:=a) (bu:=λu=>u5 b.f i u cI) (λF g=>kZ g E0) l ca (λu bH jJ g=>KQ (p.X (x.I g)) P N aj bY aM (P.m _ cH u bH)) λlT p2=>by
   rw[show l.bW fk=(bh b.f i l).ar S from Lr b.f i S c4 l];refine kL fl λqL p3 aF=>s (mE aF) (s (mE (kZ cJ E0)) (a6 cb rfl ?_));rw[j.aP,j.aP];have pz:=x.I cJ;cases h:decide (((bh b.f i l).H:R)=fm) with
   |true=>exact c (R.c8.b0 (ej h)) qL pz
   |false=>exact pK (Jv (BI (v:= .aL t) fn bj aF ao N) λQ sR V=>V.a0 λjM V=>L (λg=>of_decide_eq_false h (bd R.c8 g)) Q jM sR V.1 V.2))
 unfold y9;by_cases h:(bh b.f i l).H=l.H
 ·rw[br h];show q _ _ _;exact aO (λF a x=>⟨o,rfl,ab.X p x⟩) λg=>aE h g
 ·rw[a9 h];show q _ _ _;exact aO (λg=>aE g h) λF Q jM a m bn=>dy
theorem aeW{e J y:E}(c:y -e=J+1):((b9+1<(y:R))↔0<J):=by have h:y=e+J+1:=(E.sub_eq_iff_eq_add' (E.ed (E.lt_of_sub_eq_succ c))).mp c;rw[h];exact Iff.I (R.bL (y:=e+1) (J:=e+J+1)) ⟨λc=>E.lt_of_add_lt_add_left (E.lt_of_succ_lt_succ c:e+0<e+J),λc=>E.succ_lt_succ (E.lt_add_of_pos_right c)⟩
theorem akE{n2:E}{ks:j E}{cS:jU}{i z V:D} aX(hks:d[n2]?=r fo)(aI:Off o b n2)(c:∀{o1 o2 a},ab d o b a o {b with f:=cS}->q (A5 fq a) k B):∀fr dH b6 {o1 o2:bb D} aW,ks.bD e=g->ow T .O g=cS->fs->ab d o b a o fS->
  q (aa (forL ft DU (uL e cK) fq) (kY A5 az) a) k B:=by
 intro g;induction g with
 |O=>intro e T o1 o2 a _ h _ A;refine tH ((A.b4 fu aI).I hks) (c ?_);rw[<-h];exact A
 |aC t g ih=>
  intro e T o1 o2 a c2 h K A;have L:=(A.b4 fu aI).I hks;refine tG (i:= .tup [.aq b9,.aq bk]) (Q:=uL dz cK) L ?_;rw[abF,aqL,Mk];have p:=A.b1;have hd':ks.bD dz=g:=by rw[<-j.drop_drop,c2];rfl
  have bq:ks.H -e=g.H+1:=by rw[<-j.length_drop,c2];rfl
  have a2:=K t cy;have fin:∀cg,v=p9 .O g->q (aa (jT aB (.str vG)) (λy0=>aa (jT y0 cL) λy1=>aa (pn y1 dA ch) λF=>az (jI.next (Ba aB i z V none (r cL) fp (r (.aq b9))))) a) (λd3 a=>q (Rd ft DU (uL dz cK) A5 az d3 a) k B) B:=λ{v} aG=>
   s fx (s (uH p a2) (s (wc (e:=1) (p.mz fy) cc rfl) (ih hd' (by rw[<-h];exact bd (λv=>ow (T.lC t (kq T t,v)) .O g) aG) (λaH bg=>(j.eg (d1:=T.aS)).symm▸K aH fA) (L5 A a2))))
  refine s fB (s (mE L) (a6 fC (aj:=decide (0<g.H)) (decide_eq_decide.a3 (by rw[j.aP];exact aeW bq)) ?_));cases g with
  |O=>exact fin (v:= .O) rfl
  |aC aH g=>exact s fB (s (nI (e:=e+1) L (v:= .aq (aH:R)) (by rw[j.cZ,<-j.getElem?_drop (t:=e+1) (aH:=0),hd'];rfl) rfl) (fin (v:= .bc aH) rfl))
theorem ahf W cz ag cA cB bi dq cd fF fG:
  ad cD d o b (.P (p9 .O fH) (ow b.f .O fH)):=by
 show q _ _ _;refine QA p N fI λy a x Y E0=>?_;rw[bo];refine lU (JI fJ as N.aj) (λQ vg V=>?_) λF F c=>c;obtain ⟨p1,n1,d2,hn1,hl1⟩:=V;have pz:=x.I p1;rw[d2];refine s dB (s (nX hl1) (JE (d:=vg) (bV:=λt:E=>D.aq bk) (bu:=λt=>u5 b.f i fK cL) (λF g=>kZ g hl1) al ca (λt K jJ g=>?_) λlT p2=>?_))
 ·have I':=p.X dC;have a2:=as.lt t K;exact s (uc I') (s (uH I' a2) (s (w9 I' fy) (KQ I' P N aj bY aM (w7 P (al:=[t]) _ cy))))
 rw[show al.bW (λt=>u5 b.f i fK cL)=(nq b.f i al).ar λt:E=>D.aq bk from Lr b.f i (λt:E=>D.aq bk) (kq b.f) al];have C:(nq b.f i al).H<=1000000:=E.ay (j.length_filter_le _ _) (E.ay as.bt cw);have a2:∀t∈nq b.f i al,t<b.f.aS.H:=λt K=>as.lt t (j.mem_filter.mp K).1;revert C a2;generalize nq b.f i al=ks;intro C a2;have py:=pz.I p2;refine kL (by rw[j.aP];exact C) λqL p3 aF=>s (nS ((j7 rfl).I (j7 (pN aF)))) (akE aF fM (λ{o1 o2 sR} A=>?_) ks (e:=0) rfl rfl a2 (ab.b2 (p.X fN)));rw[abE];have mV:=(A.b4 (oK aF) fM).I aF;have s4:=(ab.X p fN).I A;refine kL (E.zero_le _) λMP oM rC=>s (FW fO rC) ?_;cases ks with
 |O=>exact fP
 |aC aH ks=>exact s (nI (e:=0) fO rfl rfl) fP
end
noncomputable abbrev kG.Gu fD(f:jU):kG:={b with f:=f}
mutual
section
variable {cu d:jE}{l0 o:kD}{ct b:kG}{m:E}{args:j ah}
mutual
section
variable {ai:Type}{e:D->aR ai}{k:ai->jE->Prop}{B:D->jE->Prop}{v z:ah}
theorem ahk W ag ds(c:∀a,d<+:a->q (e .none a) k B):q fQ k B:=
 lU cE (λF a x=>x.2▸c a x.1) λF F c=>c.a0
theorem QD W ag aV fd(c:∀y a,d<+:a->d.H<=y->a[y]?=r bN->q (e aY a) k B):q fQ k B:=
 lU cE fR λF F c=>c.a0
theorem JH W ag cd ce(as:cn b.f z al h)(c:∀y a,d<+:a->d.H<=y->a[y]?=r (.am (al.ar λt:E=>D.aq bk))->q (e (.tup [.G y,S h]) a) k B):q (aa (wm dD) e d) k B:=
 lU (JI p as N.aj) fR λF F c=>c.a0
theorem pU(n:nP d o b m (v::args)) dE:q (aa (jT aJ fT) e d) k B:=s (n.bX (e:=0) rfl rfl) c
theorem sY fU(n:nP d o b m (u::v::args)) dE:q (aa (jT aJ dA) e d) k B:=s (n.bX (e:=1) rfl rfl) c
theorem AZ ba(C:args.d6=r v) dE:q (aa (jT aJ fV) e d) k B:=s (item_last n.aZ (by rw[j.getLast?_map,C];rfl)) c
end
theorem ahl W ag cf ds:ad fW d o b dt:=by show q _ _ _;rw[GS];exact ahk p N ae λa pr=>s fb ⟨rfl,pr⟩
theorem QG W ag bw ff aV cG aX(c:∀a y,d<+:a->d.H<=y->a[y]?=r (.am fX)->q (if g then uh [.G ak,S aD,.G y] a else M9 aB b_ aY a) k B):
  q dF k B:=by
 rw[GS];refine QD p N fj λy a pr Y C=>s dw (nT (rU _) (t_ cM bj (s (Bw cM K) fY)));have cr:l.H<=1000000:=E.ay fZ dY;have L:=c (a++[.am fX]) a.H (pr.I cN) f0 bl;cases g with
 |false=>show q f1 k B;rw[we C f2,<-j.c6];exact L
 |true=>show q f1 k B;rw[we C f2,<-j.c6];exact pK L
theorem aho W ag bw aV(K:b.f.jH[t]?=r f3):ad dF d o b (.P aD (b.f.n6 t (false,l.bM))):=by show q _ _ _;exact QG p N K λa y pr Y C=>t_ cM bj (s (wc (e:=1) ((p.X pr).cV K) cc rfl) ⟨_,rfl,UU f4 K C (p.aI Y) Y⟩)
theorem ahn W ag bw aV(K:b.f.jH[t]?=r (true,l)):ad dF d o b (.P dG (b.f.lE f5)):=by
 have h:nk b.f aD l.bM=(b.f.lE f5,.aL b.f.jH.H):=by unfold nk;rw[uU K]
 have C:l.bM.H<=1000:=by rw[j.ef];exact N.m _ cH
 show q _ _ _;exact QG p N K λa y pr Y au=>by have c:=BI f4 (v:= .aL t) bj au C N;rw[h] at c;exact c
theorem aqi bz{i z:D} et{wg:jE} aX(Y:wg[y]?=r dQ)(aI:Off o b y):∀fr b6 {aT:ah} {pl:bb D} aW,ab wg o b a o (b.Gu T)->fs->(∀a,ab wg o b a o (b.Gu (mX T aT g).1)->k (S (mX T aT g).2) a)->
  q (aa (forL (λa=>a[y]?=r dQ) Ik cK (Ed aB i z (S aT) pl)) (kY Ij az) a) k B:=by
 intro g;induction g with
 |O=>intro T aT pl a st _ c;refine tH f6 ?_;rw[abL];exact c a st
 |aC t g ih=>
  intro T aT pl a st C c;refine tG f6 ?_;rw[abM];have K:=C t cy;have bG:T.aS[t]?=r (kq T t,T.aS[t].2):=by have a1:T.aS[t]?=r (T.aS[t].1,T.aS[t].2):=j.cq K;rw[a1,m8 a1]
  exact s (uc st.b1) (s (uH st.b1 K) (s (wc (e:=1) (st.b1.mz bG) cc rfl) (ih (aT:= .bc t) (L5 st K) (λaH bg=>(j.eg (d1:=T.aS)).symm▸C aH fA) c)))
theorem ahm W ag cf cd fF fG:ad fW d o b (.P (mX b.f .O al).2 (mX b.f .O al).1):=by
 show q _ _ _;rw[GS];exact QD p N fI λy a pr Y C=>s dw (nT ((rU z).I bo) (JH cM N as λJ jJ v5 aU bU=>s dB (s (nX bU)
  (aqi bU (p.aI (E.ay f0 aU)) al (aT:= .O) (ab.b2 ((p.X pr).X v5)) as.lt λa st=>⟨o,rfl,(ab.X p (pr.I v5)).I st⟩))))
theorem tF W dI a4 f8 f9(aM:i.bJ=false)(bI:j4 a_ tn=false\/i.p_=true):ad bQ d o b dt:=by
 show q _ _ _;rw[GQ];refine pU n (x8 ((rU i).I aM) ?_);cases c:j4 a_ tn with
 |false=>exact Ai c a5
 |true=>exact Ai c (nT ((CP i).I (bI.resolve_left (c▸nofun))) a5)
theorem ahT b6 ce bR(k0:¬e<0):p8 T [] h e=if 0<e.db/\h≠ .O then .aA lq else .aA nC:=a9 k0
theorem ahU W dr ce aX fU{g:j E}(ax:cn b.f u g h):∀cO,(∀v,p8 b.f g h J= .P v b.f->k ch d)->(∀A,p8 b.f g h J= .aA A->k ga d)->
  q (aa (lG HY HX (D9 aB z aJ cI (.aq J) none none)) (kY HZ az) d) k B:=by
 induction ax with
 |@stop u cr=>
  intro J c L;have V:p8 b.f [] u J=if 0<J/\u≠ .O then .aA lq else .aA nC:=ahT gb
  by_cases aj:0<J/\u≠ .O
  ·refine qJ (aw:=d) ?_ ?_
   ·rw[A4,jX ci,a8 (R.bL.a3 aj.1)];exact (jX gc).I (by rw[a7 aj.2];rfl)
   ·rw[Ow];exact x8 gd (L _ (V.I (br aj)))
  ·refine pT (aw:=d) ?_ ?_
   ·rw[A4,jX ci];by_cases m0:0<J
    ·rw[a8 (R.bL.a3 m0)];exact (jX gc).I (by rw[a8 (Decidable.byContradiction λg=>aj ⟨m0,g⟩)];rfl)
    ·cases J with
     |dc=>rfl
     |da J=>exact aE ge m0
   ·rw[H6];have Rl:=L nC (V.I (a9 aj));cases J with
    |dc=>exact a6 cb gf (nT gd Rl)
    |da J=>exact a6 cb (a7 λg=>E.succ_ne_zero J (R.c8.b0 g)) Rl
 |@next t bn aj g h K af ih=>
  intro J c L;cases J with
  |dc=>
   refine pT (aw:=d) ?_ ?_
   ·rw[A4];exact jX ci
   ·rw[H6];exact a6 cb gf (nT gh (CF p bj (s (w9 p K) (c bn (bd (bB.P · b.f) (m8 K))))))
  |da J=>
   refine qJ (aw:=d) ?_ ?_
   ·rw[A4,jX ci,a8 (R.bL.a3 ge)];exact (jX (S8 _ gg .O)).I (by rw[a7 (λg:ah.bc t= .O=>ah.noConfusion g)];rfl)
   ·rw[Ow];have e':p8 b.f (t::g) h gj=p8 b.f g h J:=by
     unfold p8;rw[a9 (R.bK.a3 (R.c7 _)),a9 gb,R.ek,R.ek,j.getElem?_cons_succ,j.length_cons];simp only [E.add_lt_add_iff_right]
    refine x8 gh (CF p bj (s (BH p K) (s (Ak _ _ _) ?_)));rw[show (gj:R) -1=J from R.add_sub_cancel J 1];exact ih (λv g=>c v gk) λA g=>L A gk
theorem agN W a4 bR(n:nP d o b m [i,.num e])(aM:i= .O\/i.mj=true) cd ce gl:ad gm d o b (p8 b.f al h e):=by
 have bo:i.bJ=false/\i.p_=false:=by
  cases i with
  |O=>exact gn
  |bc=>exact gn
  |_=>exact aM.a0 nofun nofun
 have aO:∀aX,(∀v,p8 b.f al h e= .P v b.f->k ch d)->(∀A,p8 b.f al h e= .aA A->k ga d)->q gm k B:=λ{k B} c L=>by
  rw[GQ];refine pU n (x8 ((rU i).I bo.1) (Ai (aj:=true) an (nT ((CP i).I bo.2) gp)));by_cases k0:e<0
  ·refine pT (aw:=d) ?_ ?_
   ·rw[A4,jX ci,a7 (R.bK.a3 (R.ed k0))];rfl
   ·rw[H6];exact a6 cb (a7 (R.ne_of_lt k0)) (L _ (br k0))
  ·clear n;obtain ⟨J,rfl⟩:=R.cX (R.bK.mp k0);exact ahU p as c L
 cases c:p8 b.f al h e with
 |P v T=>
  have d9:T=b.f:=by
   unfold p8 at c
   split at c
   ·exact nomatch c
   ·split at c
    ·exact (bB.P.b0 c).2.symm
    ·split at c<;>exact nomatch c
  subst d9;exact aO (λu g=>⟨o,bd S (bB.P.b0 gq).1,ab.b2 p⟩) λA g=>nomatch g.symm.I c
 |aA A=>exact aO (λu g=>nomatch g.symm.I c) λs' g=>⟨bd D.str (bB.aA.b0 gq),j.c9 _⟩
mutual
section
variable {k B:D->jE->Prop}{a_:Str}{t:E}{g:cm}{l Q:j ah}{z:ah}
theorem Qt W(n:nP d o b m (.aL t::Q)) cG(c:q (M6 aB bx aJ b_ dJ gr d) k B):q bQ k B:=by rw[GQ];refine pU n (x8 (rU aD) (t_ p bj ?_));rw[Mx (p.cV K)];exact c
theorem JG W bR(n:nP d o b m (.aL t:: .num e::Q)) cG gt(c1:¬gu->k gv d)
  (hgood:∀J:E,e=J->J<l.H->q (C4 aB bx aJ b_ dJ gr d) k B):q bQ k B:=by
 refine Qt p n K (Ai bI gp);by_cases a1:0<=e
 ·refine a6 gw gx (s (mE dK) gy);rw[j.aP];by_cases bf:e<fm
  ·rw[a8 bf];exact hgood e.db (R.toNat_of_nonneg a1).symm gR
  ·rw[a7 bf];exact c1 λc=>bf c.2
 ·exact a6 gw (a7 a1) (c1 λc=>a1 c.1)
theorem Qq{i v cU:D} ba(C:args.d6=r z)(c:nA g z=true->q (GB i bx aJ v cU d) k B)(L:¬nA g z=true->k bS d)(hin:jN .In bx gB d=r (.P false,d)):
  q (C4 i bx aJ v dJ cU d) k B:=by
 refine s hin fY;cases g with
 |false=>exact c rfl
 |true=>
  refine AZ n C (x8 (CP z) ?_);cases z with
  |num aH=>
   refine AZ n C (s cj gy);by_cases bg:aH<0
   ·rw[a8 bg];exact L λg=>aE (ej g) (R.ei.a3 bg)
   ·rw[a7 bg];exact c (a8 (R.bK.mp bg))
  |_=>exact L nofun
end
theorem Qs W dI bw bR(n:nP d o b m [.aL t,.num e]) gt(hin:jN .In bx gB d=r gC):ad bQ d o b (tw b.f aD e):=by
 obtain ⟨⟨g,l⟩,K⟩:∃x,b.f.jH[t]?=r x:=dM;by_cases ao:0<=e/\e<l.H
 ·obtain ⟨y,rfl⟩:=R.cX ao.1;have Y:=j.cq (R.bL.mp ao.2);rw[Jg K Y];exact JG p n K bI (λc=>aE ao c) λF F F=>s hin (sY n (s cj (s (nI (e:=y) dK (j.cZ.I (bd _ Y)) rfl) ⟨o,rfl,ab.b2 p⟩)))
 ·rw[Jf K ao];exact JG p n K bI (λF=>a5) λJ h aU=>aE dN ao
theorem agM W bw bR cf(n:nP d o b m [.aL t,.num e,z]):ad gF d o b (yW b.f aD e z):=by
 obtain ⟨⟨g,l⟩,K⟩:∃x,b.f.jH[t]?=r x:=dM;have pre:∀aX,(∀J:E,e=J->J<l.H->nA g z=true->∀a,ab d o b a o (b.Gu (b.f.n6 t (g,l.set J z)))->k cF a)->(0<=e/\e<l.H->¬nA g z=true->k bS d)->(¬gu->k gv d)->q gF k B:=λ{k B} c d5 cp=>
  JG p n K an cp λJ h aU=>Qq n rfl (λax=>by have st:=apo dP (us:=l.set J z) K;rw[j.map_set] at st;exact u9 (aj:=true) an (s (n.bX (e:=2) rfl rfl) (sY n (s cj (s (wc (e:=J) dK (j.aP S▸aU) h) (s ((n.c_ st (b.f.tR _ _)).bX (e:=2) rfl rfl) (c J h aU ax _ st))))))) (d5 dN) an
 rw[show yW b.f aD e z=if 0<=e/\e<l.H then (if nA g z=true then .P z (b.f.n6 t (g,l.set e.db z)) else .aA lq) else .aA nC from Jm K e z];by_cases ao:0<=e/\e<l.H
 ·rw[br ao];by_cases ax:nA g z=true
  ·rw[br ax];exact pre (λJ h F F a st=>⟨o,rfl,by rw[h];exact st⟩) (λF g=>aE ax g) λg=>aE ao g
  ·rw[a9 ax];exact pre (λF F F g=>aE g ax) (λF F=>a5) λg=>aE ao g
 ·rw[a9 ao];exact pre (λJ h aU=>aE dN ao) (λg=>aE g ao) λF=>a5
theorem ahi cP dO e4 e5 cO dr bz(c:d[J]?=r (.am [z]))(Y:y<=1000000)(L:∀a,d<+:a->a[d.H]?=r (.am (j.b3 y z))->q (e dU a) k B):q (aa (kh .Mult dS (.aq y)) e d) k B:=s (K1 c Y) (L _ cN bl)
theorem agO W ag bw cf(n:nP d o b m [.aL t,z]):ad gG d o b (zA b.f aD z):=by
 obtain ⟨⟨g,l⟩,K⟩:∃x,b.f.jH[t]?=r x:=dM;have pre:∀aX,(nA g z=true->∀jM a,ab d o b a jM (b.Gu gH)->k b_ a)->(¬nA g z=true->k bS d)->q gG k B:=λ{k B} c L=>
  Qt p n K (Ai (aj:=true) an (Qq n rfl (λax=>u9 (aj:=false) an (sY n (kL av λk8 x h=>s (mE ((p.X x).cW K)) (by
   rw[j.aP];exact ahi h (E.ay fZ dY) λa p' e'=>t_ (p.X dT) bj (s (wc (e:=1) ((p.X dT).cV K) cc rfl)
    (c ax _ _ (UU (ab.X p dT) K (us:=j.b3 l.H z) (j.eh▸e') (p.aI gJ) gJ))))))) L an))
 rw[show zA b.f aD z=if nA g z=true then .P aD gH else .aA lq from JU K z];by_cases ax:nA g z=true
 ·rw[br ax];exact pre (λF jM a st=>⟨jM,rfl,st⟩) λg=>aE ax g
 ·rw[a9 ax];exact pre (λg=>aE g ax) λF=>a5
end
theorem agx dm{d:jE}(bp:L d)(bs:j D):ki L gL bs d=r (.P bs,d):=by
 induction bs with
 |O=>exact (jX gM).I rfl
 |aC i Q ih=>exact (jX gM).I ((jX (e:=λm=>aa (ki L gL Q) λaf=>az (m++af)) (show quiet (az aN) d=r (.P aN,d) from rfl)).I ((jX ih).I rfl))
inductive nh(a:jE):j D->j ck->Prop where
 |O:nh a [] []
 |no {Z:j D} {M:j ck} (af:nh a Z M):nh a (.none::Z) (none::M)
 |aQ {y:E} {l:j ah} {Z:j D} {M:j ck} (c:a[y]?=r bN) (af:nh a Z M):nh a (.G y::Z) (r l::M)
theorem nh.X{a jJ:jE}(x:a<+:jJ) bT aK cl:nh jJ Z M:=by
 induction c with
 |O=>exact .O
 |no _ ih=>exact .no ih
 |aQ c _ ih=>exact .aQ (kZ x c) ih
theorem nh.bt aW bT aK cl:Z.H=M.H:=by
 induction c with
 |O=>rfl
 |no _ ih=>simp [ih]
 |aQ _ _ ih=>simp [ih]
theorem nh.ajS aW bT aK cl:uP a .none Z=r cR:=by
 induction c with
 |O=>rfl
 |no _ ih=>exact (j7 rfl).I gO
 |aQ c _ ih=>exact (j7 (aia c)).I gO
theorem nh.zK aW cO bT aK cl gQ:jN .In .none dS a=r (.P cR,a):=
 (nS ((RY aU).I c.ajS):look (λd=>tO d .none J) a=_)
theorem aeE aK(c:cR=false):∃l,lu M=r l:=by
 induction M with
 |O=>exact ⟨[],rfl⟩
 |aC U M ih=>
  rw[j.any_cons,cm.or_eq_false_iff] at c;obtain ⟨l,h⟩:=ih c.2;cases U with
  |none=>cases c.1
  |r us=>exact ⟨us++l,by show (lu M).ar _=_;rw[h];rfl⟩
theorem aeC aK(c:cR=true):lu M=none:=by
 obtain ⟨U,ae,Y⟩:=j.any_eq_true.mp c;cases U with
 |none=>exact Po ae
 |r l=>cases Y
mutual
section
variable {ai:Type}{a:jE}{k:ai->jE->Prop}{B:D->jE->Prop}
theorem nh.cY dm(bp:L a) bT aK cl:∀aV df,lu M=r l->q (e ez a) k B->
  q (aa (ki L (λy1=>aa (m9 y1) λy2=>ki y2.c0 el y2.bs) Z) e a) k B:=by
 induction c with
 |O=>exact λh c=>sA bp (by cases h;exact c)
 |no=>exact λh F=>by cases h
 |@aQ y us Z M Y af ih=>intro l e h c;obtain ⟨zs,ea,h⟩:=bb.map_eq_some_iff.mp (show (lu M).ar (us++·)=r l from h);rw[<-h,j.map_append] at c;refine sy (Q:=Z) bp ?_;rw[show aa (m9 aY) (λy2=>ki y2.c0 el y2.bs) a=r (.P (us.ar S),a) from (jX (nX Y)).I (agx Y _)];exact ih (e:=λaf=>e (us.ar S++af)) ea c
end
noncomputable def v9(A m:D)(e:D->aR D):aR D:=aa (m9 m) λy0=>aa (ki y0.c0 (λy1=>aa (vp [A,y1]) λy2=>az [y2]) y0.bs) λy3=>aa (cT (.am y3)) e
noncomputable def vW(w:D)(e:aR D):aR D:=aa (jN .In .none w) λy0=>(match y0 with|true=>az (.str wJ)|false=>e)
mutual
section
variable (A m:D)
theorem ahs:l9 [A,.str vD,m]=lY m none en none (M_ A m):=an
theorem ahI:l9 [A,.str uC,m]=Nb A m:=an
theorem ahM:l9 [A,.str vB,m]=Nc A m:=an
theorem ahz:l9 [A,.str uB,m]=Nf A m:=an
theorem ahG:l9 [A,.str uz,m]=Ng A m:=an
theorem ahv:l9 [A,.str se,m]=Nh A m:=an
theorem ahA:l9 [A,.str uA,m]=Ni A m:=an
theorem ahq:l9 [A,.str lJ,m]=v9 A m λw=>lY w none (r fV) none (Nj A m w):=an
theorem ahC:l9 [A,.str wM,m]=v9 A m λw=>lY w en none none λw=>vW w (GC A m w):=an
theorem ahK:l9 [A,.str wN,m]=v9 A m λw=>vW w (Nk A w):=an
theorem ahx:l9 [A,.str wL,m]=v9 A m λw=>vW w (Nl w):=an
theorem ahu:l9 [A,.str wR,m]=v9 A m λw=>vW w (aa eo (Nn A w)):=an
theorem ahE:l9 [A,.str wO,m]=v9 A m λw=>vW w (aa eo (Nm A w)):=an
end
mutual
section
variable {d:jE}{o:kD}{b:kG}{m:E}{args:j ah}{k B:D->jE->Prop}
theorem aoe W ag bz{d0:j D}(d8:d[y]?=r ep){g:j ah} aK(ae:bC b.f g M):∀aW {e:j D->aR D},d<+:a->(∀Z jJ,a<+:jJ->nh jJ Z M->q (e Z jJ) k B)->
  q (aa (ki (λd=>d[y]?=r ep) (λy1=>aa (vp [.G ak,y1]) λy2=>az [y2]) (g.ar S)) e a) k B:=by
 induction ae with
 |O=>exact λx c=>sA eq (c _ _ ca .O)
 |@aC v U Z os' aG af ih=>
  intro a e x c;refine sy (Q:=Z.ar S) eq (lU (QF fJ N aG) (λQ jJ V=>?_) λF F c=>c);refine ih (e:=λaf=>e ([Q]++af)) (x.I V.1) λZ lT p2 ai=>c _ _ (V.1.I p2) ?_;have au:=V.2;cases U with
  |none=>rw[show Q= .none from au];exact .no ai
  |r l=>obtain ⟨J,h,_,C⟩:=au;rw[h];exact .aQ (kZ p2 C) ai
theorem CG W ag ba er aK es dd(c:∀a w Z,d<+:a->a[w]?=r gP->nh a Z M->Z.H<=1000->q eu k B):q (v9 aB aJ e d) k B:=
 s (nX n.aZ) (aoe p N n.aZ ae ca λZ a x ai=>by
  have aG:Z.H<=1000:=by rw[ai.bt,ae.bt];exact C
  exact kL ev λlT p2 cp=>c lT _ Z (x.I p2) cp (ai.X p2) aG)
theorem z5 aW cO bT aK{e:aR D}(ai:nh a Z M) gQ(c:lu M=none->k bS a)(L:∀l,lu M=r l->q (e a) k B):q (vW dS e a) k B:=by
 refine s (ai.zK aU) ?_;cases bF:M.any (λU=>U.eb) with
 |true=>exact c (aeC bF)
 |false=>exact (aeE bF).a0 L
theorem ahr W ag bi b7:ad (l9 [.G ak,.str vD,.G m] d) d o b (.P (.bc b.f.aS.H) (b.f.push (i,z))):=by show q _ _ _;rw[ahs,CJ n.aZ (Ql (α:=E) dv [S z]) av];have p1:=l8 d (.am [S i]);exact sY (n.X p1) (pK (EG (ab.X p p1) (l:=aN) (af:=z) bl av cw))
theorem ahH W bi b7:ad ew d o b (LU b.f i z):=by
 have pre:∀aX ex,i.mj=aj->q ((match !aj with|true=>az ey|false=>Na aB aJ) d) k B->q ew k B:=λh c=>by rw[ahI];exact pU n (x8 ((sL i).I h) c)
 cases i with
 |bc t=>have lO:t<b.f.aS.H:=n.lN (e:=0) rfl;have st:=L5 dP lO (m:=kq b.f t) (bn:=z);exact pre rfl (sY n (s fx (pU n (s (Gh _ _) (s (uH p lO) (s (wc (e:=1) (p.mz (EB lO)) cc rfl) (sY (n.c_ st (b.f.uW _ _)) ⟨o,rfl,st⟩)))))))
 |num t=>exact pre rfl a5
 |O=>exact pre rfl a5
 |aL t=>exact pre rfl a5
theorem ze dI dg(bf:j4 a_ vD=false)(bE:j4 a_ uC=false)(d7:jN .In bx (.tup [gz,gA,(.str sr),(.str uy)]) d=r gC)
  (c:ad bQ d o b U):ad eA d o b U:=by
 have pre:∀aX,q bQ k B->q eA k B:=λc=>by rw[aaQ];exact u9 bf (u9 bE (s d7 cv))
 cases U with
 |P v T=>exact pre c
 |aA A=>exact pre c
theorem ahL W ag ba er:ad (l9 [.G ak,.str vB,.G m] d) d o b (.P dG (b.f.lE (false,args))):=by show q _ _ _;rw[ahM];exact pK (BJ dP (g:=false) n.aZ C cx)
theorem ahy W ag bR cf(n:nP d o b m [.num e,z])(ao:e<=1000):ad eB d o b (z3 b.f e z):=by
 have pre:∀aX ex,decide (0<=e)=aj->q ((match aj with|true=>Nd aB aJ|false=>az ey) d) k B->q eB k B:=λh c=>by rw[ahz];exact pU n (s cj (a6 (aiL _ _ _) h c))
 unfold z3;by_cases c:e<0
 ·rw[br c];exact pre (a7 (R.ei.a3 c)) a5
 ·rw[a9 c];have a1:=R.bK.mp c;obtain ⟨y,h⟩:=R.cX a1;have Y:y<=1000:=R.ofNat_le.mp (h▸ao);refine pre gx (sY n (kL av λa x L=>pU dh go));rw[h];have p2:=x.I (l8 a (.am (j.b3 y cF)));exact s (K1 L (E.ay Y av)) (pK (BJ (ab.X p p2) (g:=false) (y:=a.H) (l:=j.b3 y z) (by rw[j.eh];exact mO _ _) (by rw[j.length_replicate];exact Y) cx))
theorem ahF W ag a4 f8 f9 cd ce gl:ad (l9 [.G ak,.str uz,.G m] d) d o b (.P (.num al.H) b.f):=by show q _ _ _;rw[ahG];exact pU n (JH p N as λy a x F C=>s dB (s (mE C) eC))
theorem JK dg bi b7(c:ad cD d o b U):ad (l9 [.G ak,.str se,.G m] d) d o b U:=by
 rw[ahv];cases U with
 |P v T=>exact pU n eD
 |aA A=>exact pU n eD
theorem EH dg a4 bO(c:ad (yq [.G ak,S i] d) d o b U):ad (l9 [.G ak,.str uA,.G m] d) d o b U:=by
 rw[ahA];cases U with
 |P v T=>exact pU n cv
 |aA A=>exact pU n cv
end
mutual
section
variable {d:jE}{o:kD}{b:kG}{m:E}{args:j ah}{k B:D->jE->Prop}
theorem bC.snoc b6 eE aK(c:bC T Z M) eF bv(bZ:lB T af U):bC T eG eH:=by
 induction c with
 |O=>exact .aC bZ .O
 |aC c _ ih=>exact .aC c ih
theorem nh.split aW bv(M:j ck):∀di,nh a rs eH->∃ap r',rs=ap++[r']/\nh a ap M:=by
 induction M with
 |O=>
  intro rs c;cases c with
  |no c=>cases c;exact eI
  |aQ c h'=>cases h';exact eI
 |aC o' M ih=>
  intro rs c;cases c with
  |no c=>obtain ⟨ap,r',h,bE⟩:=ih c;exact ⟨_::ap,r',bd _ h,.no bE⟩
  |aQ bf c=>obtain ⟨ap,r',h,bE⟩:=ih c;exact ⟨_::ap,r',bd _ h,.aQ bf bE⟩
theorem ahp W ag eE eF(n:nP d o b m eG)(aG:Z.H<=10) aK(ae:bC b.f Z M) bv(bZ:lB b.f af U) eJ:
  ad eK d o b (Jd b.f af eM):=by
 have aO:∀dx,eN->(∀l,lu M=r l->∀i jM a,i=S (c5 b.f af l).2->ab d o b a jM {b with f:=(c5 b.f af l).1}->k i a)->q eK k bm:=λ{k} c L=>by
  rw[ahq];refine CG p N n (by rw[j.ee];exact E.ay (E.add_le_add_right aG 1) av) (ae.snoc bZ) λa w rs x C au bq=>?_;obtain ⟨ap,r',h,bA⟩:=au.split M;rw[h] at C bq;rw[j.ee] at bq;have bF:ap.H<=1000000:=E.ay (E.le_of_succ_le bq) av;rw[CJ C eO bF];have p1:=l8 a eP;refine z5 (bA.X p1) bl (λh=>c h _ (x.I p1)) λl h=>?_;rw[CJ (tL C) eO bF];have p2:=p1.I (l8 (a++[.am ap]) eP);exact s (nX bl) (nh.cY bl (bA.X p2) h (kL eQ λqL p3 aF=>by have pz:=x.I cJ;exact AZ eR j.getLast?_concat (pK (Jv (EG fn aF dj cw) λi sR V=>V.a0 λjM V=>L l h i jM sR V.1 V.2))))
 cases c:lu M with
 |none=>exact aO eS λl h=>by rw[c] at h;cases h
 |r l=>exact aO (λh=>by rw[c] at h;cases h) λts' h i jM a m bn=>by rw[c] at h;cases h;exact dy
theorem ahJ W ag ba(aG:args.H<=10) aK es eJ:
  ad eT d o b (MF b.f eM):=by
 have aO:∀dx,eN->(∀l,lu M=r l->∀i jM a,i=S dG->ab d o b a jM {b with f:=b.f.lE f3}->k i a)->q eT k bm:=λ{k} c L=>by
  rw[ahK];exact CG p N n ev ae λa w rs x C au F=>z5 au C (λh=>c h a x) λl h=>s (nX C) (nh.cY C au h (kL eQ λqL p3 aF=>
   pK (Jv (BJ (ab.X p (x.I p3)) (g:=false) aF dj cx) λi sR V=>V.a0 λjM V=>L l h i jM sR V.1 V.2)))
 cases c:lu M with
 |none=>exact aO eS λl h=>by rw[c] at h;cases h
 |r l=>exact aO (λh=>by rw[c] at h;cases h) λts' h i jM a m bn=>by rw[c] at h;cases h;exact dy
theorem nh.one aW di aV(ai:nh a rs [r l]):∃y,rs=[.G y]/\a[y]?=r bN:=by
 cases ai with
 |aQ c af=>cases af;exact ⟨_,rfl,c⟩
theorem nh.cs aW di bv aK(ai:nh a rs (U::M)):∃Q ap,rs=Q::ap/\nh a ap M:=by
 cases ai with
 |no af=>exact eU
 |aQ _ af=>exact eU
theorem Ln W ag a4 bO(ae:lB b.f i none) dd(c:∀a,d<+:a->k bS a):q eV k B:=
 CG p N n av dk λa w rs x C au F=>z5 au C (λF=>c a x) nofun
theorem Lo W ag a4 bO aV(ae:lB b.f i fc) dd(L:∀a w y,d<+:a->a[w]?=r (.am [.G y])->a[y]?=r bN->q eu k B):
  q eV k B:=
 CG p N n av dk λa w rs x C au F=>z5 au C nofun λts' h=>by obtain ⟨y,h,aM⟩:=au.one;exact L a w y x eW aM
theorem ahw W ag a4 bO bv dl:ad (l9 [.G ak,.str wL,.G m] d) d o b (KN b.f U):=by
 rw[ahx];cases U with
 |none=>exact Ln p N n ae λa x=>b8
 |r l=>exact Lo p N n ae λa w y x C Y=>s eX (s (mE Y) eC)
theorem aht W ag a4 bO bv dl:ad (l9 [.G ak,.str wR,.G m] d) d o b (uF b.f i c4 U):=by
 rw[ahu];cases U with
 |none=>exact Ln p N n ae λa x=>b8
 |r l=>exact Lo p N n ae λa w y x C Y=>pU dh (s eX (pK (BI (ab.X p x) dL Y eY N)))
theorem ahD W ag a4 bO bv dl:ad (l9 [.G ak,.str wO,.G m] d) d o b (uF b.f i j.bM U):=by
 rw[ahE];cases U with
 |none=>exact Ln p N n ae λa x=>b8
 |r l=>refine Lo p N n ae λa w y x bU Y=>?_;have C:=ae.bt N;refine pU dh (s (nI (e:=0) bU rfl rfl) ?_);rw[we Y (by rw[j.aP];exact E.ay C av),<-j.c6];exact pK (BI (ab.X p eZ) dL bl (by rw[j.ef];exact C) N)
theorem Us W ag bi b7 e0 e1 e2(c:∀a w rs,d<+:a->a[w]?=r (.am rs)->nh a rs [U]->q (vW de (GC aB aJ de) a) k B):q e3 k B:=by rw[ahC];refine CG p N n av (.aC ho' dk) λa w rs x C au bq=>?_;obtain ⟨r1,ap,h,bA⟩:=au.cs;rw[h] at C;rw[UK C (agE r1 ap) (by rw[bA.bt];exact E.ec rfl)];exact c _ _ ap eZ bl (bA.X cN)
theorem ahB W cz ag cA cB bi b7 e0 e1 e2:ad e3 d o b (uF b.f z (bh b.f i) U):=by
 cases U with
 |none=>show q _ _ _;exact Us p N n ho' ae λa w rs x C ai=>z5 ai C (λF=>b8) nofun
 |r l=>show q _ _ _;refine Us p N n ho' ae λa w rs pz C ai=>z5 ai C nofun λts' h=>?_;obtain ⟨y,h,aM⟩:=ai.one;have lO:=n.lN (e:=0) rfl;refine sY eR (s (nI (e:=0) eW rfl rfl) (s (nX aM) (JE (d:=a) (bu:=λu=>u5 b.f i u cI) (λF g=>kZ g aM) l ca (λu bH jJ g=>pU (n.X dC) (KQ (p.X dC) P N aj bY lO (ae.P P u bH))) λlT p2=>?_)));rw[show l.bW fk=(bh b.f i l).ar S from Lr b.f i S c4 l];have ao:=E.ay fh eY;exact kL fl λqL p3 aF=>pK (BI (ab.X p (pz.I cJ)) (n.lN (e:=1) rfl) aF ao N)
end
end
mutual
example _ τ w List σ s h Nat q ad bo a x i some length n jJ I p Q u v e Res y b k hx kn r ws ζ E V l map trans jE ok[g.cr rfl]hl hp tv hv jD L h1 obj D le_trans σ' ms _ _ _ _ _ _ _ _ _ _ _ list cs ac g hu word W bnd H glob m pool hy z nil c hn(r:Inv d i b)Int «at» h0 hr j Step elim ha known[λF F=>False]K hk hw kids pos inv off d f hD[.str af]R h2 h3 hN more[by decide]Got hA hF A cons hc t[g.bX _][t8 i][wj [.V (i .mC),.V (i .state),.str af] d]cell hB length_map ret reverse tup[mO _ _][.V (i .state)](aL:b.W=b.T)(sz:r_ b.T)[i .state]dr fin nodes[b.CZ nt](aU:RT af false)C Clear P absurd grow h4 hE hz int o[.cY _][.V d.o][g.c2 _][.V p](a4:RV af false)M «by» bool hm len[[l,y]][l8 _ _](e:oh d i b aw a)[by omega]pre' Option ar arr cells decide_eq_true g1 hT hi hj inl length_cons map_append mem_cons mpr sub take zero_le(M:oA b.W)(sm:Small b.W)(aQ:(bf b.W).o<=900)[.bz false][Kq ab][b.CZ C][Q u]{t G:S->L->Prop}[∀u∈b.aA,u∈nt]{a:L}{af:Str}{v:H}(h:cR)[.V (i .mC)][Q l][Q y](aP:j4 af sr=false)[by kernel_rfl]add_comm alloc bt decide_eq_false dict flatMap fr g2 ga h5 hd kindOf le_of_ble_eq_true length_append length_take mem_append mem_append_right mem_singleton tail{ag:jU}{ab:c g}[zH ab][.ll m][.dP m][xm _ _ _](v:H)[C++[u]][.a3 m][lv i u][.bz true](C:qh b){p:g}[i .mC][.aa I](af:Str)[(.M h,a)](bn:j4 af uB=false)[1+p]Bool add_le_add filter h6 hP hS hb head hg hq le_of_eq le_refl mem_append_left mul_le_mul_right not_mem_nil scratch[U d][Cz aq](ab:c g)[v∈ab.J H.a3][Gh _ _](bN:∀a,d<+:a->t cI a)[nJ mP][pr.K s](f:r_ ag){q:L}(e:m5 d a i b C E){G:S->L->Prop}{A:c S->bx aN}[wF a_ y an bt o1 o2 o3][.str vB][.V a.o](i:kD)[λq aJ=>xF aJ ce]«do»[lz v=true->v∈nt][lv i][ts.J Q][v∈C][r.bm s][EJ d _ _][.str uA][.str se][.aj ad][[.none,.V k]][.aa (args.J Q)][{b with aG:=b.aG+aw}](f:vz b)(bP:aw<=9)[aw+1]{I:c S}(aI:Off i b p){t:S->L->Prop}[.V (i .al)][aU a][Ak _ _ _]add_assoc add_le_add_left bn congrArg dk dl e1 e2 filter_cons_of_neg filter_cons_of_pos g0 g3 getElem?_eq_getElem getLast?_concat h7 hC hL hs isSome le_add_left length_reverse map_map map_take mem_map_of_mem mem_of_mem_take ne_of_lt noConfusion succ_mul zipWith{C:c H}[EJ _ _ _](bo:Kr af false)[aV a][.a8 [(.str uC),(.str sr),(.str uy)]][⟨_,c.dW lN⟩][(.M false,a)](U:∀a:L,jN .In aM eg a=n ei)[.a8 [dw,dv]][[.V bc,.str af,.V k]][aO d][(.M true,a)][vn el d][uc r][.aa ((ab.J H.a3).J Q)][by simpa using f][∀u∈us,bj b.W u b2][us.J Q][.V n1][kZ s bA][uH r dc][∀u∈vs,bj b.W u b2][tL aq][d0 _][kq b.W m][aY.lt m bO][g.min_le_left _ _][kZ p2 bM][by simp [f]][arM U aO][(by rw[c.a5];omega)][oV d eG][BO ey a9 bF eG][(by show (bH.J _ _).d2=true;rw[P];rfl)][(by show (bH.J _ _).d2=true;rw[mP];rfl)][mE (I:=ts.J dq) (by rw[rS _ ne1];exact tL U)][mE (I:=ts.J Q) (by rw[rS _ ne2];exact tL aO)][⟨by simp,.aa (ts.J a1),by simp only [aF,P]⟩](b:kG)[E.a7.J a1][.aa eP][500 -left b.T C][500 -k][g.le_add_right _ _](I:c H)[A [] a][.cx _ bp][(by clear w;cases D<;>exact av)](mH:jP b.T u)(O:E.o+1<=eR*800+1){t:jI->L->Prop}[(aF b.T u).a7++E][E.o+1][amq (b:=b) B][kZ pb cn][FW e4 ES][c.cv _ bs][Li (b:=b) (C:=C++[u]) r][.next dj][(by rw[bL rfl];rfl)][CL pA][e.aR s][.cj [((.str vE),(.aj 82)),(dk,(.aj 125)),((.str Bp),(.aj 104))]](u:H)[[.aa []]][ts.J dq](R:jP b.T v)[[.V bc,lv i v,Q v]][{b with aA:=nt}][A cI a][E.J a1][.aa (b.aA.J Q)][Ea a_ bt pl]{pl:bH S}{ak p:g}{k z:c S}[(e.same (oK aq) aI).K aq](f:d[ak]?=n (.aa k))[nX a9](h':d[p]?=n (.aa z))[[.V bc,Q v]][(.M (lv i v),d)][CO d v][Q v][.aa dr][[.str e,v]][.aa fy][.str lJ][.str wN][.str wR][.str wO][.str wM][.str tn][.str yR][.str sr][.str uy][(j7 (pN f)).K (j7 (pN h'))][.str wL][.str uz][.str uC](U:pL EE aM=n (n dx))[A bv q][.V ak](m:as)[oh.dO f bP](aq:d[p]?=n cM)[i .al]{bk:c H->Prop}(bP:aw<=6)(cV:bk args)[(by rw[c.a5];exact O)][e.aR bD]{m:as}(k:0<=m){h:cR}[a4 a][f l B y am a ai e][m -1][if h then 1 else 0][aw=4][if decide f6 then 1 else 0][I.J Q][CL r]da:True:=x
theorem Sz cy ec(nd:C.Nodup)(aD:∀v∈C,jP ag v/\lz v=true):C.o+left ag C<=(bf ag).o:=by
 have U:C.o<=((bf ag).cT λv=>decide ds).o:=Tr nd λl B=>c.mem_filter.bU ⟨xH (aD l B).1 (aD l B).2,by simpa using B⟩;have aO:∀I:c H,(I.cT λv=>decide ds).o+(I.cT λv=> !decide ds).o=I.o:=by
  intro I;induction I with
  |ao=>rfl
  |aX k D ih=>
   by_cases f:k∈C
   ·rw[c.dT er,c.dS eE];simp only [c.bR];omega
   ·rw[c.dS er,c.dT eE];simp only [c.bR];omega
 have:=aO (bf ag);unfold left;omega
structure r_(ag:jU):Prop where
 ap:ag.bK.o<=400
 p:ag.jH.o<=100
 k:∀s∈ag.jH,s.2.o<=400
theorem r_.small cy de:Small ag:=⟨g.X f.ap aS,g.X f.p aS,λs P=>g.X (f.k s P) aS⟩
theorem r_.bf cy de:(bf ag).o<=500:=by rw[amj];have:=f.ap;have:=f.p;omega
theorem r_.aF cy de cE:(aF ag v).o<=400:=by
 cases v with
 |a3 m=>cases w:ag.bK[m]? with
  |none=>rw[show Mine.Internal.aF ag cG=[] by show (match ag.bK[m]? with|n (k,z)=>[k,z]|none=>[])=_;rw[w]];exact g.bX _
  |n s=>rw[Ce w];exact (by decide:2<=400)
 |bJ m=>cases w:ag.jH[m]? with
  |none=>rw[show Mine.Internal.aF ag (.bJ m)=[] by show (match ag.jH[m]? with|n (_,ts)=>ts|none=>[])=_;rw[w]];exact g.bX _
  |n s=>rw[Fv w];exact f.k _ (mF w)
 |_=>exact g.bX _
noncomputable def t8 dm fc:S:= .a8 [lv i u,Q u]
theorem VU dm(ts:c H):c.eb (λl y=>S.a8 bC) fe dr=ts.J a1:=by
 induction ts with
 |ao=>rfl
 |aX k D ih=>simp only [c.map_cons,c.zipWith_cons_cons,ih];rfl
mutual
section
variable {σ₀ d:L}{l0 i:kD}{w₀ b:kG}
theorem arM fn fo fq fs:Gw [.V ak,.V p] d=n (.M (c.eb (λl y=> .a8 bC) k z),d):=
 nS ((j7 rfl).K ((j7 rfl).K fJ))
theorem RD ar ba bb b9(aD:v∈b.aA)(B:lz v=true) cK dE fS dF(O:I.o<=500000):
  x (AG [.V bc,Q v,.V p] d) (λD Y=>D= .bz true/\∃br,Y=(d++[br]).set p (.aa (I++(aF b.T v).J a1))) aB:=by
 have lN:=r.C v aD;have hlt:=oK aq;rw[aaT];refine j f9 ?_;refine j (J5 r aD) ?_;refine j (CO _ _) ?_;refine j ed ?_;rw[sL];cases v with
 |num m=>cases B
 |ao=>cases B
 |a3 m=>
  obtain ⟨⟨k,z⟩,P⟩:∃s,b.T.bK[m]?=n s:=eh;have mP:b.W.bK[m]?=n (k,z):=by rw[aL];exact P
  show x _ _ _;refine j c8 ?_;refine j (xr r P) ?_;refine j ep ?_;refine j da ?_;refine j ew ?_;refine j (w9 r mP) ?_;refine j (rE r P) ?_;refine j ep ?_;refine j da ?_;refine j ew ?_;refine j (BH r mP) ?_;refine j (oV d (by simp)) ?_;refine j (BO ey a9 bF (by simp;omega)) ?_;exact ⟨rfl,_,by simp only [aF,P];rfl⟩
 |bJ m=>
  obtain ⟨⟨h,ts⟩,P⟩:∃s,b.T.jH[m]?=n s:=eh;have mP:b.W.jH[m]?=n (h,ts):=by rw[aL];exact P
  have Kl:ts.o<=400:=sz.k _ (mF P);show x _ _ _;refine j (CK r) ?_;refine j (U7 _ _) ?_;refine j (PA r dc) ?_;rw[Mx (r.f_ mP),Mk];refine j ed ?_;rw[UR];have U:=r.ll P;have aO:=r.dP mP;cases h with
  |true=>dsimp only;refine j (BQ r P) ?_;refine j c8 ?_;refine j eF ?_;rw[VU];refine j eH ?_;refine j eI ?_;have ne1:p≠i cB:=λh=>aI cB eJ h.symm;have ne2:p≠i cC:=λh=>aI cC eK h.symm;refine j eL ?_;refine j eM ?_;refine j cD ?_;exact eN
  |false=>dsimp only;refine j (xu r P) ?_;refine j c8 ?_;refine j eF ?_;rw[VU];refine j eH ?_;refine j eI ?_;have ne1:p≠i cB:=λh=>aI cB eJ h.symm;have ne2:p≠i cC:=λh=>aI cC eK h.symm;refine j eL ?_;refine j eM ?_;refine j cD ?_;exact eN
structure qh(b:kG):Prop where
 nd:b.aA.Nodup
 l:∀v∈b.aA,jP b.T v/\lz v=true
theorem asJ cE:lz v=pD v:=rfl
noncomputable abbrev kG.CZ eO(C:c H):kG:={b with aA:=C}
structure m5(d a:L)(i:kD)(b:kG)(C E:c H):Prop where
 st:ax d i b a i b3
 aC:qh b3
 aE:a[d.o]?=n eQ
 M:∀u∈E,jP b.T u
 bV:∀u∈b.aA,u∈C
 wl:E.o<=eR*800+1
theorem aeU{k z I A p:g}(f:z<k)(az:p+k<=500)(O:I+1<=eS*800+1)(aD:A<=400):A+I<=(500 -z)*800+1/\z*2000+(A+I)<k*2000+(I+1)/\I<=400000/\p<1000000:=by have co:k<=500:=g.X (g.d3 _ _) az;have O:I<=eS*800:=g.le_of_succ_le_succ O;have d1:500 -k+1<=500 -z:=g.sub_lt_sub_left (g.lt_of_lt_of_le f co) f;refine ⟨g.le_succ_of_le (g.X (g.cf A I▸g.cS O (g.X aD (g.cr rfl:400<=800))) (g.X (g.c1 (g.ea _ _).symm) (g.c4 800 d1))),?_,g.X O (g.c4 800 (g.sub_le 500 k)),g.lt_of_le_of_lt (g.X eT az) N⟩;exact g.lt_succ_of_le (g.dK _ _ _▸g.add_le_add_right (g.X (g.dL (g.X aD (g.cr rfl:400<=2000)) _) (g.X (g.c1 (g.ea z 2000).symm) (g.c4 2000 f))) I)
mutual
section
variable {a:L}{C E:c H}{u v:H}{l y an:S}
theorem m5.aR df dg(s:a<+:q):m5 d q i b C E:=⟨e.st.aR s,e.aC,kZ s e.aE,e.M,e.bV,e.wl⟩
theorem amm{aN:Type}{t:aN->L->Prop} dh{ad:L->Prop}(cZ:ad a):∀eU di,(∀y∈I,qn (lv i y) l=n false)->x eV t G->
  x (ah (ki ad (λy2=>ah (jN .Is y2 l) λy3=>(match y3 with|true=>a6 [(.bq 1)]|false=>a6 [])) (I.J dq)) A a) t G:=by
 intro I;induction I with
 |ao=>exact λF f=>sA cZ f
 |aX y I ih=>exact λam f=>sy cZ (ch (xD (am y bs) a) rfl (ih (λan bp=>am an eW) f))
theorem amq(f:lz u=true){k:H}:¬(cq b.T k= .num/\cq b.T u= .num):=λh=>by
 have:=Fw (ag:=b.T) (v:=u);rw[h.2] at this;cases u with
 |num=>exact nomatch f
 |ao=>exact nomatch f
 |_=>exact nomatch this
theorem Li ar:Off i b3 d.o:=λD av w=>bl w (g.d9 (r.lt (D:=D) eX))
theorem aop ar ba bb dg(tN:u∉C)(B:lz u=true) eY eZ e0 dh
  (f:∀q,m5 d q i b cF e1->left b.T cF*2000+((aF b.T u).a7++E).o<left b.T C*2000+e2->t (.next (wF a_ y an bt (n cH) (n b4) (n l))) q):
  x (GD a_ y an bt cH b4 l a) t G:=by
 have bI:=aeU (SA (xH mH B) tN) (g.X (Sz e.aC.nd e.aC.l) sz.bf) O (sz.aF u);have DL:=e.st.aH;refine j (CL DL) (j (aqS DL) (amm DL.aA C (λk az=>(zM DL (e.aC.l k az).1 mH e3).K (dN n (ci λh=>tN (h▸az)))) ?_));refine kL a0 λVZ pa cn=>kL a0 λC3 pb ES=>j e5 ?_;have sb:=(e.aR pa).aR pb;have Oi:=sb.st.aH;refine j (CL Oi) (j (aoF Oi tN bI.2.2.2) ?_);have Gf:=apq sb.st (v:=u) mH;have RN:(C3.set (i .aA) (.cj ((C++[u]).J λv=>(Q v,lv i v))))[d.o]?=n eQ:=(rS _ (Li (C:=C) r .aA rfl)).K sb.aE;refine lU (RD Gf.aH aL sz (v:=u) e6 B RN e7 (by rw[c.a5,c.d4];exact g.X bI.2.2.1 aS)) ?_ λF F f=>f.ay;rintro D atl ⟨rfl,br,rfl⟩;have bB:((aF b.T u).a7++E).o=(aF b.T u).o+E.o:=by rw[c.cs,c.d4]
 refine f _ ⟨(Gf.aR (l8 _ br)).c6 e7 bu _,⟨c.nodup_append.bU ⟨e.aC.nd,c.nodup_cons.bU ⟨nofun,.ao⟩,λk az z cX h=>tN (c.cw.mp cX▸h▸az)⟩,λk az=>(c.cu.mp az).ay (e.aC.l k) λh=>by rw[c.cw.mp h];exact ⟨mH,B⟩⟩,
  (qV (tL RN)).K (by rw[c.reverse_append,c.reverse_reverse,c.bS]),λk az=>(c.cu.mp az).ay (λh=>Cf r.M (c.mem_reverse.mp h)) (e.M k),λk az=>c.c3 _ (e.bV k az),bB▸bI.1⟩ (bB▸bI.2.1)
theorem aot ar ba bb dg eY eZ{ot:bH S} e0 dh
  (f:∀o1 o2 o3,(lz u=true->u∈C)->t e8 a)
  (ad:∀q o1 o2 o3,m5 d q i b cF e1->left b.T cF*2000+((aF b.T u).a7++E).o<left b.T C*2000+e2->t e8 q):
  x (ah (jT b4 (.bq 0)) (Nr a_ y an bt ot cH b4) a) t G:=by
 have pA:=e.st.aH;have xs:u.p_=false->u≠ .ao->lz u=true:=λk z=>by cases u with
  |num=>exact nomatch k
  |ao=>exact bl rfl z
  |_=>rfl
 refine nT (CP u) ?_;cases aQ:u.p_ with
 |true=>
  refine ly (Sd pA mH) rfl (p7 (Se pA mH) (Fw.K aQ) ?_);cases u with
  |num m=>exact j (Mf _ _) (ch (ap:=false) (K4 a m m) e9 (f _ _ _ nofun))
  |_=>exact nomatch aQ
 |false=>
  refine nT (U9 u) ?_;by_cases vK:u= .ao
  ·rw[bL vK];exact ch (ap:=false) (Ca (B9 u i) _) (by rw[bL vK];rfl) (f _ _ _ λh=>by rw[vK] at h;exact nomatch h)
  ·rw[ci vK];have B:=xs aQ vK;refine j e_ (j (ajQ pA u) ?_);by_cases tN:u∈C
   ·rw[bL tN];exact j e_ (j (J5 pA tN) (ch (ap:=false) (Ca (zM pA mH mH e3) _) e9 (f _ _ _ λF=>tN)))
   ·rw[ci tN];have cl:∀{l:S} df,a<+:q->x (GD a_ y an bt cH b4 l q) t G:=λs=>aop r aL sz fa tN B mH O λq s' h=>ad q _ _ _ s' h;have mz:∀{A:S->bx jI} {aZ:S} {bi:g},(∀q,q[a.o]?=n fb->jT dl aZ q=n (.M (.aj bi),q))->uR bi=true->nH bi (cq b.T u)=true->(∀q,a<+:q->x (A cI q) t G)->
      x (ah (cg fb) (λy0=>ah (jT y0 aZ) λy1=>ah (j8 .isinstance [lv i u,y1]) A) a) t G:=λw dZ aD aK=>
     dM rfl λq s aJ=>j (w q aJ) (j (qy ((e.aR s).st.aH) mH _ dZ) (by rw[show nH _ (cq (b.CZ C).T u)=true from aD];exact aK q s))
    refine nT (sL u) ?_;cases u with
    |num m=>exact nomatch aQ
    |ao=>exact bl rfl vK
    |a3 m=>exact mz (bi:=82) dn rfl rfl λq s=>cl (l:= .str vE) s
    |bJ m=>
     obtain ⟨⟨h,ts⟩,P⟩:∃s,b.T.jH[m]?=n s:=⟨_,c.dW mH⟩;have mP:(b.CZ C).W.jH[m]?=n (h,ts):=by show b.W.jH[m]?=_;rw[aL];exact P
     refine t_ pA dc (j (Bw pA mP) ?_);cases h with
     |true=>exact mz (bi:=104) dn rfl (by rw[uU P];rfl) λq s=>cl s
     |false=>exact mz (bi:=125) dn rfl (by rw[uV P];rfl) λq s=>cl s
theorem aoq ar ba bb b5(f:∀nt a,ax d i b a i bg->qh bg->b6->dp->t cI a)(p:g):∀{C E:c H} {o1 o2 o3:bH S} b7,left b.T C*2000+E.o=p->m5 d a i b C E->(lz v=true->v∈C\/v∈E)->
  x (ah (lG DT Ib dj) (kY Ic a6) a) t G:=by
 induction p using g.strongRecOn with
 |_ p ih=>
  intro C E o1 o2 o3 a aq s0 vd;have e:=s0.aR (l8 a (.aa []));have qG:DT dj a=n (.M (!(E.a7.J a1).isEmpty),a++fd):=by rw[abC,jX (oV a a0)];exact jX (FW e.aE a9)
  cases E with
  |ao=>refine pT qG ?_;rw[abD];exact f C _ e.st e.aC e.bV λB=>(vd B).resolve_right nofun
  |aX u E=>
   have w:(u::E).a7.J a1=E.a7.J a1++[t8 i u]:=by rw[c.reverse_cons,c.bS];rfl
   have aE:=e.aE;rw[w] at aE;refine qJ (Y:=a++fd) (qG.K (by rw[w];cases E.a7.J a1<;>rfl)) ?_;rw[abB];refine j (Ly aE) (j (Lw aE) ?_);have s2:m5 d ((a++[ko.aa []]).set d.o (ko.aa eP)) i b C E:=⟨e.st.c6 (Li r) bu _,e.aC,qV aE,λk az=>e.M k (.cx _ az),e.bV,g.X (g.le_succ _) e.wl⟩;refine aot r aL sz s2 (e.M u bs) e.wl (λF F F ae=>ih _ (by rw[<-aq,c.bR];exact g.lt_succ_self _) rfl s2 λB=>(vd B).ay .bQ λh=>(c.bT.mp h).ay (λh=> .bQ (h▸ae (h▸B))) .inr)
    λq F F F s' h=>ih _ (by rw[<-aq,c.bR];exact h) rfl s' λB=>(vd B).ay (λh=> .bQ (c.c3 _ h)) λh=>(c.bT.mp h).ay (λh=> .bQ (c.cv _ (h▸ .cY _))) λh=> .inr (c.cv _ h)
theorem aos ar ba bb cJ b9 ff:
  x (rZ fg d) (λD Y=>D= .bz true/\∃nt,ax d i b Y i fh/\qh fh/\b6/\dp) aB:=by
 rw[aaU];exact kL N λa s w=>aoq r aL sz (λnt a k z ap aJ=>⟨rfl,nt,k,z,ap,aJ⟩) _ (E:=[v]) rfl ⟨ax.bm r s,C,w,λu ae=>c.cw.mp ae▸R,λu ae=>ae,g.d3 _ _⟩ λF=> .inr bs
end
end
mutual
section
variable {aN:Type}{d:L}{i:kD}{b:kG}{k:g}{args:c H}{A:S->bx aN}{t:aN->L->Prop}{G:S->L->Prop}
theorem L0 ar ba bb cJ b9 ff(f:∀nt a,ax d i b a i bg->qh bg->b6->dp->x fi t G):
  x (ah (rZ fg) A d) t G:=
 lU (aos r aL sz C R) (λD a h=>by obtain ⟨w,nt,k,z,ap,aJ⟩:=h;rw[w];exact f nt a k z ap aJ) λF F f=>f.ay
structure Hd(d a:L)(i:kD)(b:kG)(ak:g)(E:c H)(p:g):Prop where
 st:ax d i b a i b
 aE:a[d.o]?=n (.aa fj)
 aD:a[ak]?=n fk
 M:∀u∈E,jP b.T u
 O:E.o+400*p<=400000
theorem aeV{k z h:g}(f:k+400*(h+1)<=400000)(cX:z<=400):k+z+400*h<=400000/\k<=500000:=bF
theorem ajA ar ba bb cJ b5{ak:g}(bA:d.o≠ak)(f:∀{E pl a},Hd d a i b ak E 0->x (DR fl a) t G):∀(h:c H) {E:c H} fm b7,Hd d a i b ak E h.o->(∀u∈h,u∈b.aA)->
  x (ah (forL (λa=>a[ak]?=n fk) H_ (h.J Q) fl) (kY DR a6) a) t G:=by
 intro h;induction h with
 |ao=>exact λe F=>tH e.aD (f e)
 |aX v h ih=>intro E pl a e c0;refine tG e.aD ?_;rw[aby];have aI:=r.aI bu;have R:=c0 v bs;obtain ⟨l1,l2⟩:=aeV e.O (sz.aF v);refine lU (RD e.st.aH aL sz R (C.l v R).2 e.aE aI (by rw[c.a5];exact l2)) (λD q an=>?_) λF F f=>f.ay;obtain ⟨w,br,e'⟩:=an;rw[w,e'];refine ih (E:=E++aF b.T v) ⟨(e.st.aR (l8 a br)).c6 aI bu _,by rw[qV (tL e.aE),c.bS],by rw[rS _ bA];exact tL e.aD,λu ae=>(c.cu.mp ae).ay (e.M u) (Cf r.M),by rw[c.cs];exact l1⟩ λu ae=>c0 u (.cx _ ae)
theorem ajz ba bb cK dE di dF(f:∀nt a,ax d i b a i bg->qh bg->b6->x eV t G) fS:∀(E:c H) ec b7,ax d i b a i b3->qh b3->(∀u∈b.aA,u∈C)->(∀u∈E,jP b.T u)->
  x (ah (ki (λa=>a[p]?=n cM) (λj5=>unpackK j5 λKL=>two KL λMq Mn=>ah (rZ [.V bc,Mq,Mn]) λLH=>k6 .Not LH λsJ=>jY sJ λLC=>(match LC with|true=>a6 [(.bq 1)]|false=>a6 [])) fj) A a) t G:=by
 intro E;induction E with
 |ao=>exact λe aC z F=>sA fp (f _ _ e aC z)
 |aX u E ih=>exact λe aC z M=>sy (D:=E.J a1) fp (L0 e.aH aL sz aC (M u bs) λnt q s' K' b' F=>ih (e.K s') K' (λan bp=>b' an (z an bp)) λan bp=>M an eW)
theorem EY ar ba bb cJ(f:∀nt a,ax d i b a i bg->qh bg->b6->x fi t G):x (ah (AF [.V bc]) A d) t G:=by
 refine mu ?_;rw[aaS];have O:b.aA.o<=500:=g.X (g.X eT (Sz C.nd C.l)) sz.bf;have aI:=r.aI bu;refine kL a0 λa s ad=>j (CL dt) (j (alm dt (g.X O N)) (j fr (ajA r aL sz C (g.d9 (oK ad)) (λ{E pl q} e=>?_) _ (E:=[]) ⟨ax.bm r (s.K bD),tL ad,mO _ _,λF f=>bl f c.c5,?_⟩ λF f=>f)))
 ·rw[abx];exact j (nX e.aE) (ajz aL sz aI (λnt vg s1 aC z=>kL a0 λVZ pa cn=>kL a0 λC3 pb ES=>j (eq_empty e4 ES) (f nt C3 (e.st.K ((s1.aR pa).aR pb)) aC z)) e.aE E (ax.refl e.st.aH) C (λF f=>f) e.M)
 ·rw[c.length_nil,g.zero_add];exact (g.mul_le_mul_left 400 (g.X O (g.cr rfl:500<=1000)):_<=400*1000)
theorem am0 ar b9(f:lz v=true->v∈b.aA):ym ft d=n fu:=by
 rw[aaX,jX fv,jX du,CP];have an:lz v=true->Nt a_ fw d=n fu:=λB=>(jX fv).K ((jX du).K (by rw[U9,ci λh=>by rw[h] at B;cases B];exact (jX f9).K ((jX (J5 r (f B))).K rfl)))
 cases v with
 |num m=>rfl
 |ao=>exact (jX (CO d .ao)).K (jX du)
 |a3 m=>exact an rfl
 |bJ m=>exact an rfl
theorem amZ ar cK{ts:c H} di(aq:d[p]?=n fx)(f:∀v∈ts,lz v=true->v∈b.aA)(h:x (A fe d) t G):
  x (ah (ki (λd=>d[p]?=n fx) (λv=>ah (ym [.V bc,v]) λD=>a6 [D]) dr) A d) t G:=
 w_ aq (λv R=>(jX (am0 r (f v R))).K rfl) h
theorem aqb{ak:bx S}{e l:Str}{Q' E':S->L->Prop}(f:x (ak d) Q' E')(aK:∀v a,Q' v a->x (A v a) t G)(ad:∀y a,E' y a->∃v,EP y l a=n (.M v,a)/\∀q,a<+:q->q[a.o]?=n fz->x (A dl q) t G):x (ah (rV ak e l) A d) t G:=by
 unfold ah rV;cases w:ak d with
 |none=>rw[w] at f;exact f.ay
 |n s=>
  obtain ⟨s,a⟩:=s;rw[w] at f;cases s with
  |M v=>exact aK v a f
  |error y=>obtain ⟨v,k,z⟩:=ad y a f;have e':ah (EP y l) (λv=>cg fz) a=n (.M dl,a++[.aa fy]):=(jX k).K (oV a N);dsimp only;rw[e'];exact z _ bD a9
noncomputable def EE:c (S×S):=[(fA,(.aj 474)),(fB,(.aj 481)),(fC,(.aj 488)),(fD,(.aj 495)),(dv,(.aj 502)),(dw,(.aj 507)),(fE,(.aj 512)),(fF,(.aj 432)),(fG,(.aj 439)),(fH,(.aj 446)),(fI,(.aj 453)),(dk,(.aj 460)),((.str uB),(.aj 467)),(fK,(.aj 418)),(fL,(.aj 425)),((.str vD),(.aj 277)),(fM,(.aj 284))]
theorem aiS{p ad:g} b8(f:d[p]?=n (.cj EE)) fN:jT bv aM d=n (.M dx,d):=xF f (j7 U)
theorem told ar(aW:Args d i b k args) b8{ad:g}{aK:Fn} fN(aO:tE (tb yE) dx dy=aK dy)
  (f:∀{Y:L},d<+:Y->Inv Y i b->Args Y i b k args->x (aK dy Y) (λv a=>∀p q,a<+:q->a.o<=p->q[p]?=n (.aa [.str Ek,v])->x fO t G) (λw a=>∃e,yM e w a/\∀p q,a<+:q->a.o<=p->q[p]?=n (.aa [.str Bq,.str e])->x fO t G)):x (ah (yp [.str af,.V k]) A d) t G:=by
 refine mu ?_;rw[aa0];refine dM (br:= .cj EE) rfl λa s dU=>aqb (Q':=λv a=>∃p,v= .V p/\∀q,a=q->x (A v q) t G) (j (aiS dU U) (by rw[aO];exact lU (f s dt (aW.bm s)) (λv a h=>kL N λq p' g'=>⟨_,rfl,λF w=>w▸h _ _ p' bu g'⟩) λw a h=>h)) (λv a h=>h.ay λp h=>h.2 a rfl) λy a h=>?_
 obtain ⟨e,⟨p,aJ,w,aq⟩,h⟩:=h;refine ⟨.str e,?_,λq p' g'=>h _ _ p' bu g'⟩;rw[w];exact nS ((j7 rfl).K ((j7 (ajV aq)).K ce))
end
theorem I2{d:L} fn fo fq fs(O:(k++z).o<=1000000):kh .Add fP bv d=n (.M bt,d++[.aa (k++z)]):=by exact (zd fJ:rB (λd=>ob (tS d fP) λI=>ob (tS d bv) λD=>n (cg (.aa (I++D)))) d=_).K (oV d O)
inductive aT(d:L)(i:kD)(b:kG)(a:L)(bk:c H->Prop):S->Prop
 |mk {args:c H} {p:g} {s:as}:a[p]?=n dz->ax d i b a i {b with aG:=s}->b.aG<=s->s<=b.aG+6->Off i b p->d.o<=p->bk args->aT d i b a bk bv
noncomputable abbrev oh(d:L) dm eO(aw:g)(a:L):Prop:=ax d i b a i dA
structure vz(b:kG):Prop where
 p0:0<=b.aG
 p1:b.aG<=9000
 D:b.row.o<=100
 ne:b.al≠[]
mutual
section
variable {aN:Type}{d a:L}{i:kD}{b:kG}{aw:g}{A:S->bx aN}{t:aN->L->Prop}{G:S->L->Prop}
theorem oh.dO dB dC:Oa dA:=by have au:=f.p0;have U:=f.p1;exact ⟨show 0<=b.aG+aw by omega,show b.aG+aw<=10000 by omega,f.D⟩
theorem oh.up bE df(s':ax a i dA q i {b with aG:=b.aG+aw+1}):oh d i b dD q:=by have:=e.K s';rw[as.dK] at this;exact this
theorem bd dB dC bE{ak:as}(bA:0<ak)(ad:∀fQ q,0<=m->m<ak->(∀p,p≠i .mC->q[p]?=a[p]?)->oh d i b dD q->x (A (.bq m) q) t G):x (ah (qe [.V cL,.bq ak]) A a) t G:=
 lU (QC e.aH fR bA) (λD q h=>by obtain ⟨m,w,k,z,ap,aJ⟩:=h;rw[w];exact ad m q k z (λp aq=>by rw[ap];exact c.getElem?_set_ne aq.symm) (e.up aJ)) λF F f=>f.ay
theorem pk dB dC bE(ad:∀v∈b.al,∀q,oh d i b dD q->x (A fw q) t G):x (ah (q3 [.V cL,.V fT]) A a) t G:=
 lU (T4 e.aH fR e.aH.al (λh=>nomatch e.aH.bO.inj .al .mC rfl rfl h) λw=>f.ne (c.map_eq_nil_iff.mp w)) (λD q h=>by obtain ⟨v,R,w⟩:=c.mem_map.mp h.1;rw[<-w];exact ad v R q (e.up h.2.2)) λF F f=>f.ay
theorem oh.got cK{args:c H} fU bE fV(ad:a[p]?=n dz) dF(old:d.o<=p) fW:aT d i b a bk bv:=
 .mk ad e (as.le_add_of_nonneg_right (as.natCast_nonneg aw)) (as.dL (as.ofNat_le.bU bP) _) aI old cV
theorem oh.TN bE:Off i b a.o:=λD av w=>bl (e.aH.lt (D:=D) eX) (g.not_lt.bU (g.c1 w.symm))
theorem oh.be bE fV(args:c H)(O:args.o<=1000000) fU fW:x (ah (cg dz) a6 a) (λD a=>aT d i b a bk D) G:=
 j (oV a fX) (oh.got fY bP a9 e.TN e.st.bB cV)
end
noncomputable abbrev RT cN b_:Prop:=∀a:L,jN .In aM (.a8 [fC,fD,dv,fK,fL]) a=n cO
noncomputable abbrev RV cN b_:Prop:=∀a:L,jN .In aM (.a8 [fF,fG]) a=n cO
noncomputable abbrev Kr cN b_:Prop:=∀a:L,jN .In aM (.a8 [fA,fB,dk]) a=n cO
noncomputable abbrev RW cN b_:Prop:=∀a:L,jN .In aM (.a8 [dw,fE]) a=n cO
theorem QL fZ f0(z:m<6): -1<=m -1/\m -1<=4:=bF
mutual
section
variable {d:L}{i:kD}{b:kG}{k:g}{args:c H}{af:Str}(r:Inv d i b)(au:0<=b.aG)(U:b.aG<=9000)(av:b.row.o<=100)(P:b.al≠[])
include r au U av P
theorem Ji dG(f:∀l∈b.al,∀y∈b.al,∀a,vz b->oh d i b 2 a->x (NB ca aM dH cb cc a) t aB):
  x a2 t aB:=by
 have ai:vz b:=⟨au,U,av,P⟩;rw[aaM];refine j (L3 r) (pk (aw:=0) ai a0 ?_ λl B a e=>pk ai N e λy am a e=>f l B y am a ai e);show ax d i b d i {b with aG:=b.aG+0};rw[as.add_zero];exact ax.refl r
theorem Jj dG bh bw f1(aP:j4 af sr=h)(f:∀l∈b.al,∀y∈b.al,∀a,vz b->oh d i b 2 a->x ((match h with|true=>Nu ca cb cc|false=>Nz ca aM dH cb cc) a) t aB):
  x a2 t aB:=
 Ji r au U av P λl B y am a ai e=>j dI (j f2 (u9 aP f3))
theorem Jh dG bh bw cd cP f1(bo:Kr af h)(f:∀l∈b.al,∀y∈b.al,∀a,vz b->oh d i b 2 a->x ((match h with|true=>Nv ca dH cb cc|false=>Ny ca aM cb cc) a) t aB):
  x a2 t aB:=
 Jj r au U av P aU a4 aP λl B y am a ai e=>u9 bn (j (bo a) f3)
theorem ae6(aU:RT af true):x a2 (λD Y=>aT d i b Y (λargs=>∃l∈b.al,args=[l]) D) aB:=
 Ji r au U av P λl B y am a ai e=>j dI (e.be N [l] N ⟨l,B,rfl⟩)
theorem ae7 bh(a4:RV af true):x a2 (λD Y=>aT d i b Y (λargs=>∃l∈b.al,∃A:as,args=[l,.num A]/\ -1<=A/\A<=4) D) aB:=
 Ji r au U av P λl B y am a ai e=>j dI (j f2 (bd ai N e aS λm a k z F e=>j dJ (e.be N [l,.num f4] N ⟨l,B,_,rfl,QL k z⟩)))
theorem afa bh bw(aP:j4 af sr=true):x a2 (λD Y=>aT d i b Y (λargs=>∃l∈b.al,∃y∈b.al,∃A:as,args=[l,.num A,y]/\ -1<=A/\A<=4) D) aB:=
 Jj r au U av P aU a4 aP λl B y am a ai e=>bd ai N e aS λm a k z F e=>j dJ (e.be N [l,.num f4,y] N ⟨l,B,y,am,_,rfl,QL k z⟩)
omit r au U av P in
theorem alT fZ b_ f0(z:m<4): -1<=m -f5/\m -f5<=3:=by
 cases h with
 |true=>rw[if_pos rfl];omega
 |false=>rw[if_neg cR.d_];omega
theorem afc bh bw cd(bn:j4 af uB=true):x a2 (λD Y=>aT d i b Y (λargs=>∃l∈b.al,∃A:as,args=[.num A,l]/\ -1<=A/\A<=3) D) aB:=
 Jj r au U av P aU a4 aP λl B y am a ai e=>u9 bn (bd ai N e aS λm a k z F e=>bd ai N e aS λaw a F F F e=>j cD
  (j (show j8 .bq [.bz (decide f6)] a=n (.M (.bq f7),a) from rfl) (j dJ (e.be N [.num (m -f7),l] N ⟨l,B,_,rfl,alT _ k z⟩))))
omit r au U av P in
theorem agH eU fQ(au:0<=m)(f:m<3)(O:I.o=3):∃aZ,cut f8 none (n (1+m))=aZ.J Q/\aZ≠[]/\aZ.o<=3/\∀v∈aZ,v∈I:=by
 obtain ⟨p,rfl⟩:=as.eq_ofNat_of_zero_le au;have w:cut f8 none (n cQ)=(I.J Q).bW (min cQ (I.J Q).o):=rfl;have aq:min cQ (I.J Q).o=1+p:=by rw[c.a5,O];exact g.min_eq_left (g.cf p 1▸as.ofNat_lt.mp f)
 refine ⟨I.bW cQ,by rw[w,aq,c.d6],λh=>?_,by rw[c.ct,O];exact g.min_le_right _ _,λv=>c.d8⟩;have:=dN c.o h;rw[c.ct,O,g.cf] at this;exact g.d_ ((g.succ_min_succ p 2).symm.K this)
theorem ae8 bh bw cd cP(bo:Kr af true):x a2 (λD Y=>aT d i b Y (λargs=>args≠[]/\args.o<=3/\∀v∈args,v∈b.al) D) aB:=
 Jh r au U av P aU a4 aP bn bo λl B y am a ai e=>pk ai N e λan bp a e=>kL N λq s ad=>bd ai N fa aS λm lT k z aK e=>j (yU _ _ _) (by obtain ⟨aZ,w,co,cU,dY⟩:=agH [l,y,an] m k z rfl;have O:aZ.o<=1000000:=g.X cU N;rw[CJ ((aK _ (g.ne_of_gt (‹oh d i b 3 a›.aH.lt (D:= .mC) rfl))).K ad) w fX];exact oh.got fY N a9 e.TN e.st.bB ⟨co,cU,λv R=>by rcases c.bT.mp (dY v R) with rfl|R;exact B;rcases c.bT.mp R with rfl|R;exact am;rw[c.cw.mp R];exact bp⟩)
theorem ae9 bh bw cd cP ee(aV:RW af true):x a2 (λD Y=>aT d i b Y (λargs=>∃l,∃y∈b.al,args=bC/\(l∈b.al\/∃A:as,l= .num A/\0<=A/\A<=2)) D) aB:=
 Jh r au U av P aU a4 aP bn bo λl B y am a ai e=>j ef (bd ai N e aS λm a F F F e=>j cD (by
  cases decide (m=0) with
  |true=>exact bd ai N e aS λaw a k z F e=>e.be N [.num aw,y] N ⟨_,y,am,rfl,.inr ⟨aw,rfl,k,as.lt_add_one_iff.mp z⟩⟩
  |false=>exact e.be N bC N ⟨_,y,am,rfl,.bQ B⟩))
theorem ae_ bh bw cd cP ee(aV:RW af false):x a2 (λD Y=>aT d i b Y (λargs=>∃l∈b.al,∃y∈b.al,args=bC) D) aB:=
 Jh r au U av P aU a4 aP bn bo λl B y am a ai e=>j ef (e.be N bC N ⟨l,B,y,am,rfl⟩)
end
noncomputable def bj(ag:jU) fc(bad:H->Prop):Prop:=∃Z,Dk ag Z/\(pD u=true->u∈Z)/\∀v∈Z,¬bad v
mutual
section
variable {d:L}{i:kD}{b:kG}{k:g}{args:c H}
mutual
section
variable {aN:Type}{A:S->bx aN}{t:aN->L->Prop}{G:S->L->Prop}{v:H}
theorem Ur ar bY bZ b0(R:jP b.W v)(f:∀p Z a,d<+:a->a[p]?=n (.aa (Z.J Q))->Dk b.W Z->(pD v=true->v∈Z)->Z.o<=1000->x (A bv a) t G):
  x (ah (yo ft) A d) t G:=
 lU (an0 r M sm aQ R) (λD a h=>by obtain ⟨s,p,Z,w,_,k,z,ap,aJ⟩:=h;rw[w];exact f p Z a s k z ap aJ) λF F f=>f.ay
end
theorem aoc ar b8 ej(aO:∀a:L,jN .In aM ek a=n ei):
  vn el d=n (.M b1,d):=by
 rw[GR,jX c7];exact jX em
theorem LP ar bY bZ b0 b8{l u:H}{mid:c H}(aW:nP d i b k (l::mid++[u]))(U:∀a:L,jN .In aM eg a=n en):
  x eo (λD Y=>∃h,D= .bz h/\d<+:Y/\(h=false->bj b.W u λv=>v=l)) aB:=by
 rw[GR];exact j c7 (pU aW (AZ aW (c.dX ..) (Ur r M sm aQ (aW.M u e6) λp Z a s O aY ae F=>j (RZ O l) ⟨_,rfl,s,λf=>⟨Z,aY,ae,λv R w=>of_decide_eq_false f (w▸R)⟩⟩)))
noncomputable def Kq c9 cE:Prop:=∃m∈ab,v= .a3 m
noncomputable def zH c9 cE:c S:=match decide c_ with
 |true=>[Q v]
 |false=>[]
theorem ajq cz b9(f:zH ab v=[]):¬Kq ab v:=λ⟨m,bO,w⟩=>by unfold zH at f;rw[bL (w▸c.d7 bO)] at f;cases f
theorem ajr c9(Z:c H):(Z.ck cA).o<=Z.o:=by
 induction Z with
 |ao=>exact g.c2 _
 |aX v Z ih=>
  rw[c.flatMap_cons,c.cs,c.bR,g.cf];refine g.cS ih ?_;unfold zH;cases decide c_
  ·exact g.bX _
  ·exact g.c2 _
theorem aob ar bY bZ b0{x1 x2 x4:S}{n1 ak:g} dE cz{wg:L}(U:wg[n1]?=n eq)(bA:wg[ak]?=n cM)(pr:d<+:wg) b5 db:
  ∀(us:c H) fm b7,wg<+:a->(∀u∈us,jP b.W u)->(es->∀a,d<+:a->t b1 a)->
  x (ah (forL (λa=>a[ak]?=n cM) DS et (Eb a_ x1 x2 eu x4 pl)) (kY Ia a6) a) t G:=by
 intro us;induction us with
 |ao=>intro pl a s _ aV;refine tH ev ?_;rw[abz];exact aV (λF f=>bl f c.c5) a dd
 |aX u us ih=>
  intro pl a s ae aV;refine tG ev ?_;rw[abA];refine Ur (r.bm dd) M sm aQ (ae u bs) λp Z q p' hms aY vM hml=>j (nX hms) (P9 (out:=zH ab) hms Z (λv F=>(jX (RZ (kZ (s.K p') U) v)).K (by unfold zH;cases decide c_<;>rfl)) ?_);have B:Z.ck cA=[]->∀v∈Z,¬Kq ab v:=λw v R=>ajq (c.flatMap_eq_nil_iff.mp w v R);have O:(Z.ck cA).o<=1000000:=g.X (ajr ab Z) (g.X hml N);revert B O;generalize Z.ck cA=jW;intro B O;refine kL O λVZ pa cn=>kL a0 λC3 pb ES=>j e5 ?_;have pz:=s.K (p'.K (pa.K pb));cases jW with
  |ao=>
   exact ih pz (λv R=>ae v (.cx _ R)) λf=>aV λv R=>by
    rcases c.bT.mp R with w|R
    ·rw[w];exact ⟨Z,aY,vM,B rfl⟩
    ·exact f v R
  |aX y jW=>exact bN C3 (pr.K pz)
theorem Uu ar bY bZ b0{x1 x2:S}{n1 n2 n3:g} cz{us vs:c H} b7(U:a[n1]?=n eq)(aO:a[n2]?=n (.aa et))(aP:a[n3]?=n (.aa (vs.J Q)))(pr:d<+:a)
  (O:us.o+vs.o<=1000000) b5 db(ae:∀u∈us,jP b.W u)(R:∀u∈vs,jP b.W u)(aV:es->ex->∀a,d<+:a->t b1 a):
  x (NC a_ x1 x2 eu (.V n2) (.V n3) a) t G:=by
 refine j (I2 aO aP (by rw[<-c.bS,c.a5,c.cs];exact O)) ?_;rw[<-c.bS];have s:=l8 a (.aa ((us++vs).J Q));refine j fr (aob r M sm aQ (kZ s U) a9 dd bN (us++vs) (c.prefix_refl _) (λu f=>(c.cu.mp f).ay (ae u) (R u)) λf=>aV (λu ae=>f u (c.c3 _ ae)) λu ae=>f u (c.cv _ ae))
theorem agG(I:c S):cut I none (n 1)=I.bW 1:=by
 cases I with
 |ao=>rfl
 |aX l D=>exact Ql (α:=g) l D
theorem Ut ar bY bZ b0 b8{l:H}{bG:c H}(aW:nP d i b k (bG++[l])) ej(aO:∀a:L,jN .In aM ek a=n en)
  cz{w:H}(aY:Chain b.W l ab w) b5 db(aV:(∀ap∈ab,bj b.W (kq b.W ap) b2)->(j4 af se=true->∀y ys,bG=y::ys->bj b.W y b2)->∀a,d<+:a->t b1 a):
  x eo t G:=by
 have O:ab.o<=1000:=g.X aY.bB sm.ap;have d0:∀{α:Type} (aK:g->α),(ab.J aK).o<=1000000:=λaK=>by rw[c.a5];exact g.X O N
 have ae:∀u∈oq b.W ab,jP b.W u:=w7 M;have cW:∀vs:c H,vs.o<=1000->(oq b.W ab).o+vs.o<=1000000:=λvs f=>by rw[oq,c.a5];exact g.X (g.cS O f) N
 have Ru:∀vs:c H,(j4 af se=true->vs=(bG++[l]).bW 1)->(∀u∈oq b.W ab,bj b.W u b2)->ex->∀a,d<+:a->t b1 a:=λvs R f h'=>
  aV (λap aY=>f _ (c.d7 (aK:=kq b.W) aY)) λcp y ys w=>h' y (by rw[R cp,w];exact .cY _)
 rw[GR];refine j c7 (j em (AZ aW c.dX (JH r sm aY λp a s aq ad=>j (KD (A:=0) N rfl rfl) (j (nX ad) (w_ (out:=λm=>Q cG) ad (λm F=>rfl) ?_)))));refine kL ez λvg p1 bM=>j (nX bM) (w_ (I:=ab) (enc:=λm=>Q cG) (out:=λm=>Q eA) bM (λm bO=>?_) ?_)
 ·have oS:=r.bm (s.K p1);exact (jX (uc oS)).K ((jX da).K ((jX (uH oS eB)).K (jX (w9 oS (EB eB)))))
 refine kL ez λlT p2 cm=>?_;have dQ:ab.J (λm=>Q cG)=(ab.J H.a3).J Q:=by rw[c.d5];rfl
 have dR:ab.J (λm=>Q eA)=(oq b.W ab).J Q:=by rw[oq,c.d5];rfl
 rw[dQ] at bM;rw[dR] at cm;have p3:=s.K (p1.K p2);refine u9 rfl ?_;cases cp:j4 af se with
 |true=>have aU:=(aW.bm p3).at_;show x (lY _ _ _ _ _ lT) t G;rw[CJ aU (l':=((bG++[l]).bW 1).J Q) (by rw[agG,c.d6]) (by rw[c.a5,c.ct];exact g.X eC N)];exact Uu r M sm aQ (kZ bD eD) (kZ bD cm) a9 (p3.K bD) (cW _ (by rw[c.ct];exact g.X eC N)) bN ae (λu f=>aW.M u (c.d8 f)) (Ru _ λF=>rfl)
 |false=>exact kL a0 λqL p4 dV=>Uu (vs:=[]) r M sm aQ (kZ p4 eD) (kZ p4 cm) dV (p3.K p4) (cW _ a0) bN ae (λu f=>bl f c.c5) (Ru _ λf=>by rw[cp] at f;cases f)
end
end
mutual
example _ h k I W[by kernel_rfl]p L List g hu A i c ht q x e ts hp length u v hv some ok cs y hb hy t hc sz n pool un Nat w b d hi σ h' τ V ad[λQ=>e]hx hm units st cells nil _ _ _ _ _ _ _ _ _ _ _ small z ac J el P hz f hl known bnd r a ho pos N cell row hn «at» j[⟨g,g,H,aj,ar,ao⟩]Acc Int s arr hs o word hk Goal cd(j:W g<=59)h1 trans[λam=>e]Q[x7 b n B c]M hts le_trans[by omega]Res h2 hq(U:jP g p)E ex hne l hP K dk hN{p:R}Chain Clear D Step ar ha(a:mZ d af)σ' cons hcl hok off words{v:R}h'' elim hlt inl inv map mem_append mem_singleton obj push{p A:R}[.bj e]{d:jU}[J.le_of_ble_eq_true rfl]hz' at_ bo filter «by» getElem?_eq_getElem hA int le_succ list m made mem_filter ret(d:jU){args:h R}[.bo G]Inv X hacc he hpx hsame inr mem_cons[lz v=true->v∈aj][anc b n B c][mF N][by simp](b:nG D L K)[[p,A]]{l:J}[⟨g,g,H,aj,ar,f⟩]hc' Bool big e2 g2 hcs hr if_neg if_pos mem_or_eq_of_mem_set more{r:h R}[Ch W'][.az N][λo=>w (by rw[o])][[p]][h.mem_reverse.mp j]{o:b2}[(o,us)](ap:jD->jD->aM jI)[D+1]he' Str codeV getLast? hd hh hin hrs hsh isA mono not_mem_nil or_false set sig state[ae6 c b.p0 bU b.al b.ne T][λargs a=>aoK b n B c a][ami b n B c][⟨by simp,by simp,λv w=>?_⟩][mF s]{z:h J}[kq d m][.aq m]{b:ax}[(am,L)](sE:nb A)[.bo bE]{A:R}[.str aC]Rows absurd eq grow length_set nodup_cons reverse[⟨trivial,λa=>by cases a⟩][(o,r)](k:sS d)[d.bp (p,A)][d.Y++[(p,A)]](C:jP g A)[⟨_,h.bz U⟩][[p,.num b]][.az l][d.lE ci](X a M:jD)[.bH (.de false)](ap:jD->jD->jD->jD->jD->aM jI)(n:D<=15)Nodup NotEq Option alloc b2 bool concat_eq_append d1 d2 eq_nil_or_concat getLast h3 le_refl length_append length_map «do» length_reverse link links off1 succ zero[λζ ζ=>False][m.2.2 a][ae_ c b.p0 bU b.al b.ne T T e e T T][λargs a=>aoN b n B c a][ae8 c b.p0 bU b.al b.ne T T e e T][λargs a=>aoM b n B c a][.head _](bb:∀m∈z,a4 d cH λv=>∃l∈z,v= .aq l)[(by rw[<-a8];exact s)]{m:J}[f++m::o]{O:jE}[[.none,.bo am]]{G:J}[{K with g:=W'}][S .cA](C:jP d A)[(p,A)][.az g.jH.t](E:a4 g A λv=>v=p)(C:pV g H A)[al5 C.nb][g.tR _ _]{vs:h R}[∀u∈r,pV g H u][[.str ay,.str D]][J.bC _](N:l<d.Y.t)[.bo dK]{aC:cm}[(kq d l,A)][(d.Y[l].1,d.Y[l].2)]G add_le_add_left add_le_add_right ap append_of_mem as b1 bn e3 eq_of_mem_replicate filter_append getElem?_set_self h0 hQ hX hj i1 id isinstance kindOf length_eq_zero_iff length_replicate lt_of_le_of_lt map_append maxRecDepth mem_of_getLast? mul_le_mul succ_le_succ[L+6][S .mC]{Q:jE}{f:ax}[vn [.bo dK,.str aC,.bo G] Q][d.Y.cy l dZ][kZ pr as](a:v∈H)[(.y false,Q)][λQ pr=>⟨_,rfl,pr,nofun⟩][kq d l][ae7 c b.p0 bU b.al b.ne T T][λargs a=>aoL b n B c a][Lv b n B c ag]{f:b2×h R}[Lv b n B c C][V v w][ae9 c b.p0 bU b.al b.ne T T e e T T][λargs a=>LY b n B c a]{r us:h R}[anm b n B c](N:d.jH[l]?=x cX)[d.n6 l ci]{D:R}(mQ:nb D)[x r][by simp [oq]][⟨au,o,rfl⟩](bQ:∀v,¬bM v->∀u,Ch W' u v->Ch d u v){o:h J}(f:h J)(ah:R)[∀l∈f++m::o,l<d.Y.t][ai m dB][q▸h.mem_append_right _ dB][.tail _ N]{q:R}[(kq d m,p9 q o)][λm mD=>?_](G:J){u:R}[nq d p z][ow d .Z e7][(by rw[q];simp)](f:R×R)(l:J)(aX:h J)(y:oA d)(aC:cm){S:kD}[[.bo dK,.str aC,.bo G]][lz v=true->v∈K.aj]{D:J}{af:h R}(aN:∀u∈r,pV g H u)(j:W g+r.t<=240)[.bR rfl][⟨C,ani aS dQ,.bR E⟩][J.lt_irrefl _][⟨aP,aP⟩][db (h R)][aA v aW u j][Sw this](w:∀v∈vs,jP g v)[⟨aH,?_⟩][lu os](aY:(H.bx lz).t<=19)[kq g m]{us:h R}[⟨trivial,trivial⟩][⟨?_,trivial⟩][nq g p z][.de false][tb yF][d.jH++[ci]][.str uz][tA (ap y1) a0 X][.bD dU](v:R)(O:jE)[{K with aj:=nt}](a5:r9 K.g K.H (.y v d))[⟨d,d,K.H++[v],kn,K.ar,K.ao⟩][⟨a.ae.1,λf s u V U=>?_⟩]{bE:J}[K.CZ nt][b.F (J.aO n bt)][.str ay][d.lC l f][tv v][d.Y.cy l f][args.bl tv]{i:J}{ah:Fn}[.glob i](aH:pL EE cO=x (x fX))(aR:∀am,tE (tb yE) fX dH=ah dH)[J.dl _][λal qL ab=>?_](b:nG D L av)[by decide]R i2:True:=x
noncomputable def nb:R->Prop
 | .num l=> -1<=l/\l<=1000
 |_=>True
theorem al5 bf(a:nb v):Lb v:=by
 cases v with
 |num l=>exact ⟨a.1,ax.aO a.2 f3⟩
 |_=>trivial
structure mZ(d:jU)(af:h R):Prop where
 y:oA d
 m7:sS d
 aF:yC d
 ae:Ob d af
 uY:∀f∈d.Y,nb f.1/\nb f.2
 na:∀f∈d.jH,∀u∈f.2,nb u
structure pV(d:jU)(af:h R)(v:R):Prop where
 y:jP d v
 ae:lz v=true->v∈af
 nb:nb v
theorem af6 bs{u v:R}(a:Ch d u v):lz v=true:=by induction a<;>rfl
theorem asm bf(a:lz v=true):pD v=true:=a
mutual
section
variable {d W':jU}{af:h R}
theorem mZ.sub{P':h R} a9(ay:∀v∈af,v∈P'):mZ d P':=⟨a.y,a.m7,a.aF,⟨λf s U=>ay _ (a.ae.1 f s U),λf s u j U=>ay _ (a.ae.2 f s u j U)⟩,a.uY,a.na⟩
theorem Bu cY(bM:R->Prop) eU(ee:∀v,bM v->(∀u,Ch d u v->aw cc u)->aw cc v):sS W':=by
 intro v;have:=k v;induction this with
 |intro v _ ih=>
  by_cases a:bM v
  ·exact ee v a ih
  ·exact aw.intro v λu j=>ih u (bQ v a u j)
theorem I1 cY{bM:R->Prop} eU e6(U:∀v,bM v->lz v=true)(a:a4 d u bM):aw cc u:=by
 obtain ⟨ms,E,j,V⟩:=a;have:=k u;induction this with
 |intro u _ ih=>
  by_cases hux:lz u=true
  ·have cr:=j hux;refine aw.intro u λab ag=>?_;have bu:=bQ u (V u cr) ab ag;exact ih ab bu λxC=>E u ab cr bu (by unfold pD at xC;simpa using xC)
  ·exact aw.intro u λab ag=>cQ (af6 ag) hux
theorem aev cY fc bq(U:jP d p) dL:sS cZ:=by
 have aA:∀v,¬(v= .aq d.Y.t)->∀u,Ch cZ u v->Ch d u v:=by
  intro v w u a;induction a with
  |@om l am L a=>have P:c0[l]?=x cK:=a;rw[rt,b8 ce] at P;exact .om P
  |@pC l am L a=>have P:c0[l]?=x cK:=a;rw[rt,b8 ce] at P;exact .pC P
  |ae a j=>exact .ae a j
 have bN:∀v,jP d v->aw (Ch cZ) v:=by
  intro v;have:=k v;induction this with
  |intro v _ ih=>
   intro w;have aW:v≠ .aq d.Y.t:=λo=>by rw[o] at w;exact cQ w fn
   refine aw.intro v λu j=>ih u fq ?_;have:=aA v aW u j;exact Cf y fr
 refine Bu k (λv=>v= .aq d.Y.t) aA λv w ζ=>?_;clear ζ;subst w;refine aw.intro _ λu j=>?_;cases j with
 |@om l am L a=>have P:c0[d.Y.t]?=x (u,L):=a;rw[rt,b9 rfl] at P;clear a;cases P;exact bN p U
 |@pC l am L a=>have P:c0[d.Y.t]?=x (am,u):=a;rw[rt,b9 rfl] at P;clear a;cases P;exact bN A C
theorem aew cY fc ch fx(zJ:∀u∈us,jP d u):sS c5:=by
 have aA:∀v,¬(v= .az d.jH.t)->∀u,Ch c5 u v->Ch d u v:=by
  intro v w u a;induction a with
  |om a=>exact .om a
  |pC a=>exact .pC a
  |@ae l q' r u a j=>have P:fD[l]?=x (q',r):=a;rw[rt,b8 ce] at P;exact .ae P j
 have bN:∀v,jP d v->aw (Ch c5) v:=by
  intro v;have:=k v;induction this with
  |intro v _ ih=>
   intro w;have aW:v≠ .az d.jH.t:=λo=>by rw[o] at w;exact cQ w fn
   refine aw.intro v λu j=>ih u fq ?_;have:=aA v aW u j;exact Cf y fr
 refine Bu k (λv=>v= .az d.jH.t) aA λv w ζ=>?_;clear ζ;subst w;refine aw.intro _ λu j=>?_;cases j with
 |@ae l q' r u a j=>have P:fD[d.jH.t]?=x (q',r):=a;rw[rt,b9 rfl] at P;clear a;cases P;exact bN u (zJ u j)
theorem mZ.bp a9 bq(U:pV d af p) dL cL:mZ cZ af:=by
 refine ⟨a.y.bp U.y C,aev a.m7 a.y U.y C,a.aF,⟨λf s bP=>?_,a.ae.2⟩,λf s=>?_,a.na⟩
 ·rcases h.bm.mp s with s|s
  ·exact a.ae.1 f s bP
  ·rw[h.bn.mp s] at bP⊢;exact U.ae bP
 ·rcases h.bm.mp s with s|s
  ·exact a.uY f s
  ·rw[h.bn.mp s];exact ⟨U.nb,sE⟩
theorem mZ.lE a9 ch fx(j:∀u∈us,pV d af u)(aS:o=true->∀u∈us,cn u):mZ c5 af:=by
 refine ⟨a.y.lE λu V=>(j u V).y,aew a.m7 a.y λu V=>(j u V).y,λr aN=>?_,fM,a.uY,λf s u V=>?_⟩
 ·rcases h.bm.mp aN with aN|aN
  ·exact a.aF r aN
  ·have:=h.bn.mp aN;clear j aN;cases this;exact aS rfl
 ·rcases h.bm.mp s with s|s
  ·exact a.ae.2 f s u V U
  ·rw[h.bn.mp s] at V;exact (j u V).ae U
 ·rcases h.bm.mp s with s|s
  ·exact a.na f s u V
  ·rw[h.bn.mp s] at V;exact (j u V).nb
theorem af8 bZ{f:R×R} dW:∀v,¬(v= .aq l)->∀u,Ch fR u v->Ch d u v:=by
 intro v w u a;induction a with
 |@om au am L a=>have P:fT[au]?=x cK:=a;rw[qc _ _ _ _ N,b8 ce] at P;exact .om P
 |@pC au am L a=>have P:fT[au]?=x cK:=a;rw[qc _ _ _ _ N,b8 ce] at P;exact .pC P
 |ae a j=>exact .ae a j
theorem mZ.aoH a9 bZ dW cN dL cL(E:a4 d A λv=>v= .aq l):mZ (d.lC l dZ) af:=by
 have s:d.Y[l]?=x d0:=h.bz N;have V:=mF s;refine ⟨a.y.lC (by rw[m8 s];exact (a.y.m _ V).1) C,?_,a.aF,⟨λf mP bP=>?_,a.ae.2⟩,λf mP=>?_,a.na⟩
 ·have aA:=af8 (d:=d) (f:=dZ) N;refine Bu a.m7 (λv=>v= .aq l) aA λv w ih=>?_;subst w;refine aw.intro _ λu j=>?_;cases j with
  |@om au am L P=>have bg:ex[l]?=x (u,L):=P;rw[qc _ _ _ _ N,b9 rfl] at bg;clear P;cases bg;have dk:=ih _ (Ch.om s);have d9:kq d l=d.Y[l].1:=m8 s;rw[<-d9] at dk;exact dk
  |@pC au am L P=>have bg:ex[l]?=x (am,u):=P;rw[qc _ _ _ _ N,b9 rfl] at bg;clear P;cases bg;exact I1 a.m7 aA (λv w=>by rw[w];rfl) E
 ·rcases h.b_ mP with mP|rfl
  ·exact a.ae.1 f mP bP
  ·have q:kq d l=d.Y[l].1:=m8 s;show kq d l∈af;rw[q];refine a.ae.1 _ V ?_;rw[<-q];exact bP
 ·rcases h.b_ mP with mP|rfl
  ·exact a.uY f mP
  ·refine ⟨?_,sE⟩;show nb eC;rw[m8 s];exact (a.uY _ V).1
theorem af7 bZ eG(N:l<d.jH.t):∀v,¬(v= .az l)->∀u,Ch (d.n6 l f) u v->Ch d u v:=by
 intro v w u a;induction a with
 |om a=>exact .om a
 |pC a=>exact .pC a
 |@ae au o r u a j=>have P:(d.jH.cy l f)[au]?=x cX:=a;rw[qc _ _ _ _ N,b8 ce] at P;exact .ae P j
theorem mZ.LV a9 bZ ch eL eN(j:∀u∈us,pV d af u/\(o=true->cn u)/\(u∈r\/a4 d u λv=>v= .az l)):mZ eO af:=by
 have ai:=nJ N;refine ⟨a.y.n6 λu V=>(j u V).1.y,?_,λrs cs=>?_,fM,a.uY,λf s u V=>?_⟩
 ·have aA:=af7 (d:=d) (f:=ci) ai;refine Bu a.m7 (λv=>v= .az l) aA λv w ih=>?_;subst w;refine aw.intro _ λu V=>?_;cases V with
  |@ae au q' rs u P vL=>
   have bg:(d.jH.cy l ci)[l]?=x (q',rs):=P;rw[qc _ _ _ _ ai,b9 rfl] at bg;clear P;cases bg;rcases (j u vL).2.2 with cr|E
   ·exact ih u (.ae N cr)
   ·exact I1 a.m7 aA (λv w=>by rw[w];rfl) E
 ·rcases h.b_ cs with cs|q
  ·exact a.aF rs cs
  ·clear N cs;cases q;exact λu V=>(j u V).2.1 rfl
 ·rcases h.b_ s with s|rfl
  ·exact a.ae.2 f s u V U
  ·exact (j u V).1.ae U
 ·rcases h.b_ s with s|rfl
  ·exact a.na f s u V
  ·exact (j u V).1.nb
theorem pV.le(a:pV d af v)(le:d.nW W'):pV W' af v:=⟨a.y.le le,a.ae,a.nb⟩
theorem mZ.bF a9 eP(n:jP d D) eQ cb(j:∀u∈r,pV d af u):mZ (bF d D r).1 af/\nb (bF d D r).2:=by
 induction r with
 |Z=>exact ⟨a,mQ⟩
 |ba p al ih=>have i:=ih λu V=>j u (.tail _ V);exact ⟨i.1.bp ((j p dB).le (made_le _ _ _)) (xG n al) i.2,⟨⟩⟩
theorem mZ.u_ a9 bf cb(n:lB d v eR):∀u∈r,pV d af u:=by
 intro u j;have bc:=n.y a.y u j;cases n with
 |az N=>exact ⟨bc,a.ae.2 _ bV u j,a.na _ bV u j⟩
 |@chain _ z w E=>obtain ⟨l,N,rfl⟩:=h.mem_map.mp j;have bi:=E.lt l N;have s:d.Y[l]?=x d0:=h.bz bi;have q:kq d l=d.Y[l].1:=m8 s;rw[q] at bc⊢;exact ⟨bc,a.ae.1 _ cF,(a.uY _ cF).1⟩
theorem mZ.om a9 bZ dW:pV d af eC:=by have s:d.Y[l]?=x d0:=h.bz N;have q:kq d l=d.Y[l].1:=m8 s;rw[q];exact ⟨(a.y.m _ cF).1,a.ae.1 _ cF,(a.uY _ cF).1⟩
theorem mZ.dr a9 cG(ai:W'.Y.t=d.Y.t)(a8:W'.jH=d.jH)(bQ:∀G,G∉z->W'.Y[G]?=d.Y[G]?)(b6:∀m∈z,m<d.Y.t/\∃A,W'.Y[m]?=x (kq d m,A)/\jP d A/\nb A)
  dC
  (bN:(∀m∈z,aw cc cH)->∀m∈z,aw cc cI):mZ W' af:=by
 have le:d.nW W':=⟨by rw[ai];exact J.dl _,by rw[a8];exact J.dl _⟩;have mem:∀f∈W'.Y,f∈d.Y\/∃m∈z,f.1=kq d m/\jP d f.2/\nb f.2:=by
  intro f s;obtain ⟨G,as,rfl⟩:=h.getElem_of_mem s;by_cases E:G∈z
  ·obtain ⟨_,A,q,C,sE⟩:=b6 G E;rw[h.bz as] at q;injection q with q
   rw[q];exact .bR ⟨G,E,rfl,C,sE⟩
  ·left
   have q:=bQ G E;rw[h.bz as] at q;exact mF q.symm
 have Cw:∀m,jP d cH:=λm=>w7 a.y (z:=[m]) _ eS;have aA:∀v,¬(∃l∈z,v= .aq l)->∀u,Ch W' u v->Ch d u v:=by
  intro v w u j;induction j with
  |@om au am L P=>rw[bQ au λo=>w eT] at P;exact .om P
  |@pC au am L P=>rw[bQ au λo=>w eT] at P;exact .pC P
  |ae P j=>rw[a8] at P;exact .ae P j
 refine ⟨⟨λf s=>?_,λf s v w=>?_⟩,?_,λr aN=>a.aF r (by rw[<-a8];exact aN),⟨λf s U=>?_,λf s=>a.ae.2 f dD⟩,λf s=>?_,λf s=>a.na f dD⟩
 ·rcases mem f s with s|⟨m,E,q,C,sE⟩
  ·exact ⟨(a.y.m f s).1.le le,(a.y.m f s).2.le le⟩
  ·exact ⟨by rw[q];exact (Cw m).le le,C.le le⟩
 ·exact (a.y.am f dD v w).le le
 ·have BG:∀m∈z,aw cc cH:=λm E=>I1 a.m7 aA (λv w=>by obtain ⟨l,_,q⟩:=w;rw[q];rfl) (bb m E);have all:=bN BG;refine Bu a.m7 (λv=>∃l∈z,v= .aq l) aA λv w ζ=>?_;clear ζ;obtain ⟨l,N,rfl⟩:=w;exact all l N
 ·rcases mem f s with s|⟨m,E,q,_⟩
  ·exact a.ae.1 f s U
  ·rw[q] at U⊢;exact (a.om (b6 m E).1).ae U
 ·rcases mem f s with s|⟨m,E,q,_,sE⟩
  ·exact a.uY f s
  ·exact ⟨by rw[q];exact (a.om (b6 m E).1).nb,sE⟩
end
theorem aqg dE eV eW:∀bI eX,(f++m::o).c_->eY->(mX d ah dF).1.Y[m]?=x (kq d m,match f.co with|none=>ah|x M=> .aq M):=by
 induction f with
 |Z=>intro d ah nd ai;show (mX (d.lC m (kq d m,ah)) cI o).1.Y[m]?=_;rw[Ve o _ _ (h.cU.mp nd).1];exact h.eb eZ
 |ba M f ih=>
  intro d ah nd ai;have nd:=h.cU.mp nd;have hdc:m≠M:=λq=>nd.1 e0;refine (ih (d.lC M (kq d M,ah)) (.aq M) nd.2 λl N=>(h.cT (d6:=d.Y)).symm▸ai l e1).aI ?_;rw[Ez hdc];cases f with
  |Z=>rfl
  |ba am al=>rfl
theorem akY e2 dE eV eW:∀d:jU,(f++m::o).c_->eY->(ow d q dF).Y[m]?=x e3:=by
 induction f with
 |Z=>intro d nd ai;show (ow (d.lC m e3) q o).Y[m]?=_;rw[KR o _ (h.cU.mp nd).1];exact h.eb eZ
 |ba M f ih=>intro d nd ai;have nd:=h.cU.mp nd;refine (ih (d.lC M (kq d M,p9 q dF)) nd.2 λl N=>(h.cT (d6:=d.Y)).symm▸ai l e1).aI ?_;rw[Ez λq:m=M=>nd.1 e0]
theorem P0 bs dE{am L:R}(a:d.Y[m]?=x cK) e6(j:Ch d u cI):u=am\/u=L:=by
 cases j with
 |om P=>rw[a] at P;cases P;exact .bj rfl
 |pC P=>rw[a] at P;cases P;exact .bR rfl
theorem Pd bs:aw (Ch d) .Z:=aw.intro _ λu j=>by cases j
mutual
section
variable {d:jU}{af:h R}
theorem mZ.turn a9 a2 cG(E:a3 d p z .Z) dC:mZ (mX d .Z z).1 af:=by
 have nd:=E.nodup;have ai:=E.lt;have bv:∀f m o,z=f++m::o->(mX d .Z z).1.Y[m]?=x (kq d m,match f.co with|none=> .Z|x M=> .aq M):=by intro f m o q;rw[q];exact aqg f d .Z (by rw[<-q];exact nd) (by rw[<-q];exact ai)
 refine a.dr (z:=z) (Mi _ _ _) (Gm _ _ _) (λG as=>Ve _ _ _ as) e4 bb λBG=>?_
 ·obtain ⟨f,o,q⟩:=h.d5 mD;refine ⟨ai m mD,_,bv f m o q,?_,?_⟩
  ·cases s:f.co with
   |none=>trivial
   |x M=>exact ai M (by rw[q];simp [h.ep s])
  ·cases s:f.co<;>trivial
 ·have key:∀e5 (f o:h J),f.t=G->z=f++o->∀m∈f,aw (Ch (mX d .Z z).1) cI:=by
   intro G;induction G with
   |du=>intro f o s _ m mD;rw[h.ek.mp s] at mD;cases mD
   |dt G ih=>
    intro f o s q m mD;rcases h.di f with rfl|⟨f,M,rfl⟩
    ·cases mD
    ·rw[h.df] at*;have e':z=f++M::o:=by rw[q];simp
     have mP:f.t=G:=by simp at s;exact s
     have B4:=ih f (M::o) mP e';rcases h.bm.mp mD with mD|mD
     ·exact B4 m mD
     ·rw[h.bn.mp mD];refine aw.intro _ λu j=>?_;rcases P0 (bv f M o e') j with rfl|rfl
      ·exact BG M (by rw[e'];simp)
      ·cases hpl:f.co with
       |none=>exact Pd
       |x ab=>exact B4 ab (h.ep hpl)
  intro m mD;exact key z.t z [] rfl bW m mD
theorem mZ.dq a9 bq cG(E:a3 d A z .Z) dC:mZ e8 af:=by
 have nd:=E.nodup;have ai:=E.lt;have ks:∀m,m∈nq d p z->m∈z:=λm a=>(h.bG.mp a).1;have al6:(nq d p z).c_:=h.Pairwise.bx _ nd;have bv:∀f m o,z=f++m::o->∃ab,(ow d .Z e7).Y[m]?=x (kq d m,ab)/\(ab= .Z\/∃M∈o,ab= .aq M):=by
  intro f m o q;by_cases aD:pM d p cH=true
  ·
   have hcp:m∉nq d p z:=λa=>by have:=(h.bG.mp a).2;rw[aD] at this;cases this
   rw[KR _ _ hcp];obtain ⟨u,j⟩:=E.split (f:=f) (o:=m::o) q;cases j with
   |@next _ am L _ _ N D=>
    rw[m8 N];refine ⟨L,N,?_⟩;cases D with
    |stop=>exact .bj rfl
    |next hi' t'=>exact .bR ⟨_,by simp,rfl⟩
  ·have b4:nq d p z=nq d p f++m::nq d p o:=by
    rw[q];unfold nq;rw[h.ea,h.filter_cons_of_pos (by simpa using aD)]
   rw[b4];refine ⟨_,akY _ d (by rw[<-b4];exact al6) (by rw[<-b4];exact λl N=>ai l (ks l N)),?_⟩;cases aS:nq d p o with
   |Z=>exact .bj rfl
   |ba M al=>
    refine .bR ⟨M,?_,rfl⟩;have:M∈nq d p o:=by rw[aS];simp
    exact (h.bG.mp this).1
 refine a.dr (z:=z) (FG _ _) (FF _ _) (λG as=>KR _ _ λo=>as (ks G o)) e4 bb λBG=>?_
 ·obtain ⟨f,o,q⟩:=h.d5 mD;obtain ⟨ab,ag,bu⟩:=bv f m o q;refine ⟨ai m mD,ab,ag,?_,?_⟩
  ·clear ag;rcases bu with rfl|⟨M,cp,rfl⟩
   ·trivial
   ·exact ai M (by rw[q];simp [cp])
  ·clear ag;rcases bu with rfl|⟨M,cp,rfl⟩<;>trivial
 ·have key:∀e5 (o f:h J),o.t=G->z=f++o->∀m∈o,aw (Ch e8) cI:=by
   intro G;induction G with
   |du=>intro o f aS _ m mD;rw[h.ek.mp aS] at mD;cases mD
   |dt G ih=>
    intro o f aS q m mD;cases o with
    |Z=>cases mD
    |ba M o=>
     have hq':o.t=G:=by simpa using aS
     have RS:=ih o (f++[M]) hq' e9;rcases h.bS.mp mD with rfl|mD
     ·obtain ⟨ab,ag,bu⟩:=bv f m o q;refine aw.intro _ λu j=>?_;rcases P0 ag j with rfl|rfl
      ·exact BG m e9
      ·clear j ag;rcases bu with rfl|⟨M,cp,rfl⟩
       ·exact Pd
       ·exact RS M cp
     ·exact RS m mD
  intro m mD;exact key z.t z [] rfl bW m mD
end
theorem aqH bI e_:W (d.bp f)=W d+1:=by unfold W jU.bp;simp;omega
theorem Mv bI(f:b2×h R):W (d.lE f)=W d+f.2.t:=by unfold W jU.lE;simp;omega
theorem aqI bI fa e_:W fR=W d:=by unfold W jU.lC;simp
theorem Mw bs bZ ch eL eN(a:us.t=r.t):W eO=W d:=by
 unfold W jU.n6;dsimp only;congr 1;have:∀(aX:h (b2×h R)) fa,aX[l]?=x cX->((aX.cy l ci).bl λf=>f.2.t).sum=(aX.bl λf=>f.2.t).sum:=by
  intro aX;induction aX with
  |Z=>intro l a;cases a
  |ba am al ih=>
   intro l N;cases l with
   |du=>clear ih;cases N;simp [a]
   |dt l=>simp only [h.set_cons_succ,h.map_cons,h.sum_cons];rw[ih l N]
 exact this _ _ N
theorem Mu bI(D:R)(aX:h R):W (bF d D aX).1=W d+aX.t:=by unfold W;rw[KY,vU];omega
theorem aqJ bI eX fb:W (mX d ah aX).1=W d:=by unfold W;rw[Mi,Gm]
theorem aqG bI(q:R) fb:W (ow d q aX)=W d:=by unfold W;rw[FG,FF]
theorem zT bs eG(a:f∈d.jH):f.2.t<=W d:=by unfold W;have:=alF (h.mem_map_of_mem (ah:=λf:b2×h R=>f.2.t) a);omega
theorem An bs bf cb(a:lB d v eR):r.t<=W d:=by
 cases a with
 |az a=>exact zT (mF a)
 |chain w a=>unfold oq W;rw[h.dn];have:=a.len;omega
noncomputable def r9 bI(af:h R):Out->Prop
 | .cz _=>True
 | .y v W'=>mZ W' af/\d.nW W'/\W W'<=240/\W'.jH.t<=d.jH.t+1/\jP W' v/\nb v
noncomputable def oQ(K:kG) fd(args:h R)(ah:Fn):Prop:=∃aB,(∀dG fe {am:J},bL O S K->Args O S K am args->mS (ah dH O) O S K aB)/\
 (∀dG fe {W':jU} dI,bL O S dJ->nP O S dJ G args->Due (l9 ff O) O S dJ aB)/\r9 K.g K.H aB
structure nG(D:J)(L:ax)(K:kG):Prop where
 cR:K.a5=K.g
 i:mZ K.g K.H
 kn:qh K
 pl:∀v∈K.H,jP K.g v/\nb v/\fg
 I:W K.g<=240
 a7:K.g.jH.t<=2+D
 px:(K.H.bx lz).t<=4+D
 l7:K.H.t<=8+D
 ne:K.H≠[]
 p0:0<=K.ao
 p1:K.ao<=L
 al:K.ar.t<=100
theorem nG.F fh{L:ax}{K:kG} bX(n:D<=20):r_ K.g:=by
 have j:=b.I;refine ⟨?_,by have:=b.a7;omega,λf s=>?_⟩
 ·unfold W at j;omega
 ·have:=zT s;omega
theorem Qc bs fi(i:mZ d af)(aY:(af.bx lz).t<=19)(j:W d<=59):wu d/\∀v D,jS d v D->n D<100:=by
 have aR:∀v D,jS d v D->n D<=60:=λv D a=>by have:=ajD a;omega
 refine ⟨⟨i.m7,λam L ta tz pS ub=>⟨?_,by have:=aR am ta pS;omega⟩⟩,λv D a=>by have:=aR v D a;omega⟩;have:=apb i.y i.m7 i.ae aY j pS ub;omega
theorem ani ch cN(a:nA o A=true)(C:Lb A)(q:o=true):cn A:=by subst q;exact (LB C).mp a
mutual
section
variable {g:jU}{H aj:h R}{ar:h ax}{ao:ax}(i:mZ g H)(F:r_ g)(I:W g<=240)
include i F I
theorem Cs bf(w:jP g v)(vX:nb v):r9 g H (.y v g):=⟨i,.refl _,I,J.bC _,w,vX⟩
theorem Cr ch cb fj(E:o=true->∀u∈r,cn u) fk:r9 g H (.y dN (g.lE cX)):=
 ⟨i.lE aN E,g.Ci _,by rw[Mv];exact j,by simp [jU.lE],by show _<_;simp [jU.lE],trivial⟩
theorem F1 a2 cb aT fj(E:ej g p= .str->∀u∈r,cn u) fk:r9 g H (.y (nk g p r).2 (nk g p r).1):=by
 have bE:r9 g H (.y (bF g .Z r).2 (bF g .Z r).1):=
  have f:=i.bF (D:= .Z) trivial trivial aN
  ⟨f.1,made_le _ _ _,by rw[Mu];exact j,by rw[vU];exact J.bC _,xG (d:=g) (D:= .Z) trivial r,f.2⟩
 unfold nk;cases aD:ej g p with
 |vec=>exact Cr i F I aN nofun j
 |str=>exact Cr i F I aN (λζ=>E aD) j
 |_=>exact bE
theorem agT bq(U:pV g H p) c1 cL aG:oQ av vD bY AK:=
 ⟨.y (.aq g.Y.t) (g.bp dM),λc k=>ak1 c k,λc k=>ahr c F.aa k,i.bp U C sE,g.Fy _,by rw[aqH];omega,J.bC _,by show _<_;simp [jU.bp],trivial⟩
theorem ag3 bq aT c1 cL dO:oQ av uC bY AS:=by
 refine ⟨LU g p A,λc k=>ald c k,λc k=>ahH c k,?_⟩;cases p with
 |aq l=>exact ⟨i.aoH U C sE E,g.uW _ _,by rw[aqI];exact I,J.bC _,C.le (g.uW _ _),sE⟩
 |num l=>trivial
 |Z=>trivial
 |az l=>trivial
theorem TA a2 cJ aT:r9 g H (tw g p b):=by
 cases p with
 |az l=>
  obtain ⟨⟨o,r⟩,N⟩:∃f,g.jH[l]?=x f:=c2;by_cases aD:0<=b/\b<r.t
  ·obtain ⟨G,rfl⟩:=ax.eq_ofNat_of_zero_le aD.1;have as:G<r.t:=aP
   have j:r[G]?=x r[G]:=h.bz as;rw[Jg N j];have:=i.u_ cd _ (mF j);exact Cs i F I this.y this.nb
  ·rw[Jf N aD];trivial
 |num l=>trivial
 |Z=>trivial
 |aq l=>trivial
theorem agR a2 cJ aT:oQ av yR c3 yr:=by
 refine ⟨tw g p b,λc k=>SI c k,λc k=>?_,?_⟩
 ·refine ze e e e ?_;cases p with
  |az l=>exact Qs c k e e
  |num l=>exact tF c k rfl br
  |Z=>exact tF c k rfl br
  |aq l=>exact tF c k rfl br
 ·exact TA i F I U
theorem agW a2 cJ aT:oQ av tn c3 yt:=by
 have lst:(p= .Z\/p.mj=true)->oQ av tn c3 yt:=λaD=>by
  obtain ⟨z,q,E⟩:=a3.aV i.m7 i.y U;refine ⟨p8 g z q b,λc k=>ak7 c k aD E,λc k=>ze e e e (agN c k aD E),?_⟩;unfold p8
  split
  ·trivial
  ·cases N:z[b.toNat]? with
   |none=>dsimp only;split<;>trivial
   |x l=>have:=i.om (E.lt l bV);exact Cs i F I this.y this.nb
 cases p with
 |az l=>exact ⟨tw g c4 b,λc k=>ak6 c k,λc k=>ze e e e (Qs c k e e),TA i F I U⟩
 |num au=>exact ⟨.cz lq,λc k=>ak8 c k,λc k=>ze e e e (tF c k rfl fl),trivial⟩
 |Z=>exact lst (.bj rfl)
 |aq l=>exact lst fl
theorem aso cN bZ a2(a:a4 g A λv=>v=p)(q:p= .az l):a4 g A λv=>v= .az l:=by rw[q] at a;exact a
set_option tactic.hygienic true in
theorem agS bq cJ aT dP dO:oQ av sr [p,.num b,A] AJ:=by
 refine ⟨yW g p b A,λc k=>ak0 c k dQ,λc k=>?_,?_⟩
 ·refine ze e e e ?_;cases p with
  |az l=>exact agM c k
  |num l=>exact tF c k rfl br
  |Z=>exact tF c k rfl br
  |aq l=>exact tF c k rfl br
 ·cases p with
  |az l=>
   obtain ⟨⟨o,r⟩,N⟩:∃f,g.jH[l]?=x f:=c2;show r9 g H (yW g c4 b A);rw[Jm N]
   split
   ·split
    ·rename_i aS;refine ⟨i.LV N λu j=>?_,g.tR _ _,by rw[Mw N (h.cT ..)];exact I,by simp [jU.n6],C.y.le dR,C.nb⟩;rcases h.b_ j with j|rfl
     ·exact ⟨i.u_ cd u j,λaS=>by subst aS;exact i.aF r bV u j,.bj j⟩
     ·exact fm
    ·trivial
   ·trivial
  |num l=>trivial
  |Z=>trivial
  |aq l=>trivial
set_option tactic.hygienic true in
theorem agX bq aT(nx:nb p) dP dO:oQ av uy bY AN:=by
 refine ⟨zA g p A,λc k=>ak9 c F.aa k dQ,λc k=>?_,?_⟩
 ·refine ze e e e ?_;cases p with
  |az l=>exact agO c F.aa k
  |num l=>exact tF c k rfl br
  |Z=>exact tF c k rfl br
  |aq l=>exact tF c k rfl br
 ·cases p with
  |az l=>
   obtain ⟨⟨o,r⟩,N⟩:∃f,g.jH[l]?=x f:=c2;show r9 g H (zA g c4 A);rw[JU N]
   split
   ·rename_i aS;refine ⟨i.LV N λu j=>?_,g.tR _ _,by rw[Mw N (h.el ..)];exact I,by simp [jU.n6],U.le dR,nx⟩;rw[h.d_ j];exact fm
   ·trivial
  |num l=>trivial
  |Z=>trivial
  |aq l=>trivial
theorem ag5 bJ(a8:∀v∈args,pV g H v)(ai:args.t<=3) aG:oQ av vB args AV:=
 ⟨.y dN (g.lE (false,args)),λc k=>alf c k aP,λc k=>ahL c F.aa k aP,Cr i F I a8 nofun aP⟩
theorem agZ cJ cN(aD:b<=3) dP aG:oQ av uB [.num b,A] AP:=by
 refine ⟨z3 g b A,λc k=>ala c k aP,λc k=>ahy c F.aa k aP,?_⟩;unfold z3
 split
 ·trivial
 ·exact Cr i F I (λu j=>by rw[h.d_ j];exact C) nofun (by rw[h.el];omega)
theorem agY a2 aT:oQ av wL cf AO:=by
 obtain ⟨aB,an⟩:=lB.aV i.m7 i.y U;refine ⟨KN g aB,λc k=>ak_ c F.aa k an,λc k=>ahw c F.aa k an,?_⟩;cases aB with
 |none=>trivial
 |x r=>have:=An an;exact Cs i F I trivial fo
theorem Qv a2 aT:oQ av uz cf yv:=by obtain ⟨z,q,E⟩:=a3.aV i.m7 i.y U;have aH:=E.len;have aR:=F.m;exact ⟨.y (.num z.t) g,λc k=>alc c F.aa k E,λc k=>ahF c F.aa k E,Cs i F I trivial fo⟩
theorem Uv dS{os:h fp}(b7:cP g vs os):∀cb,lu os=x r->dT/\r.t<=W g*vs.t:=by
 induction b7 with
 |Z=>intro r a;cases a;exact ⟨λu j=>(nomatch j),J.zero_le _⟩
 |@ba v aB vs os a D ih=>
  intro r bO;cases aB with
  |none=>cases bO
  |x us=>
   have cl:(lu os).bl (us++·)=x r:=bO;cases ag:lu os with
   |none=>rw[ag] at cl;cases cl
   |x zs=>
    rw[ag] at cl;clear bO;cases cl;obtain ⟨eg,f5⟩:=ih ag;refine ⟨λu j=>?_,?_⟩
    ·rcases h.bm.mp j with j|j
     ·exact i.u_ a u j
     ·exact eg u j
    ·have:=An a;rw[h.dm,h.length_cons,J.mul_succ];omega
theorem agQ dS eP fs(n:jP g D) eQ(ai:vs.t<=2) aG:oQ av lJ (vs++[D]) AI:=by
 obtain ⟨os,an⟩:=cP.aV i.m7 i.y w;obtain ⟨aB,ajB⟩:=lB.aV i.m7 i.y n;have asB:g.Y.t<=W g:=by unfold W;omega
 have b3:∀r,lu os=x r->dT/\r.t<=118:=λr a=>by obtain ⟨aH,aR⟩:=Uv i F I an a;refine ft;have:W g*vs.t<=59*2:=J.eq j ai;omega
 refine ⟨Jd g D fu,λc k=>akZ c F.aa k (by show g.Y.t+_<=_;omega) an (λr aN=>?_),λc k=>ahp c F.aa k aP an ajB (λr a=>by have:=(b3 r a).2;omega),?_⟩
 ·have:∀(vs:h R) (os:h fp),cP g vs os->x r∈os->r.t<=59:=by
   intro vs os b7;induction b7 with
   |Z=>intro a;cases a
   |ba a _ ih=>
    intro V;rcases h.bS.mp V with q|V
    ·clear V;subst q;have:=An a;omega
    ·exact ih V
  have:=this vs os an aN;omega
 ·cases a:lu os with
  |none=>trivial
  |x r=>obtain ⟨aH,aR⟩:=b3 r a;obtain ⟨g',n'⟩:=i.bF n mQ aH;exact ⟨g',made_le _ _ _,by rw[Mu];omega,by rw[vU];exact J.bC _,xG n r,n'⟩
theorem ag4 dS fs(ai:vs.t<=3) aG:oQ av wN vs AU:=by
 obtain ⟨os,an⟩:=cP.aV i.m7 i.y w;have b3:∀r,lu os=x r->dT/\r.t<=177:=λr a=>by obtain ⟨aH,aR⟩:=Uv i F I an a;refine ft;have:W g*vs.t<=59*3:=J.eq j ai;omega
 refine ⟨MF g fu,λc k=>ale c F.aa k aP an,λc k=>ahJ c F.aa k aP an (λr a=>by have:=(b3 r a).2;omega),?_⟩;cases a:lu os with
 |none=>trivial
 |x r=>obtain ⟨aH,aR⟩:=b3 r a;exact Cr i F I aH nofun (by show W g+r.t<=240;omega)
theorem agU a2 aT aG:oQ av wR cf AL:=by
 obtain ⟨aB,an⟩:=lB.aV i.m7 i.y U;refine ⟨uF g p eh aB,λc k=>ak2 c F.aa i.aF k an,λc k=>aht c F.aa k an,?_⟩;cases aB with
 |none=>trivial
 |x r=>exact F1 i F I U (i.u_ an) (xd i.aF an) (by have:=An an;show W g+r.t<=240;omega)
theorem ag2 a2 aT aG:oQ av wO cf yu:=by
 obtain ⟨aB,an⟩:=lB.aV i.m7 i.y U;refine ⟨uF g p h.cV aB,λc k=>SJ c F.aa i.aF k an,λc k=>ahD c F.aa k an,?_⟩;cases aB with
 |none=>trivial
 |x r=>exact F1 i F I U (λu j=>i.u_ an u cg) (λaD u j=>xd i.aF an aD u cg) (by have:=An an;rw[h.dp];omega)
theorem ag1 bq aT c1 fv aG:oQ av wM bY AR:=by
 obtain ⟨aB,an⟩:=lB.aV i.m7 i.y C;obtain ⟨o',ho'⟩:=lB.aV i.m7 i.y U;obtain ⟨m,cq⟩:=Qc i aY j;refine ⟨uF g A (keep g p) aB,λc k=>alb c F.aa i.aF m k an,λc k=>ahB c i.y F.aa m cq k ho' an,?_⟩;cases aB with
 |none=>trivial
 |x r=>exact F1 i F I C (λu j=>i.u_ an u (h.bG.mp j).1) (λaD u j=>xd i.aF an aD u (h.bG.mp j).1) (by have:=An an;have:=Cc g p r;omega)
theorem Va cN(bA:A.cu=false) cG e2(E:a3 g A z q):(q= .Z)\/lB g A none:=by
 by_cases bO:q= .Z
 ·exact .bj bO
 ·exact .bR (.bad bA E bO)
set_option tactic.hygienic true in
theorem ag0 a2 aT(j:W g<=240)(bb:∀z q,a3 g p z q->∀m∈z,a4 g fw λv=>∃l∈z,v= .aq l)(vL:W g<=59):oQ av uA cf AQ:=by
 by_cases bA:p.cu=true
 ·clear bb;cases p<;>try (cases bA;done)
  rename_i l;obtain ⟨⟨o,r⟩,N⟩:∃f,g.jH[l]?=x f:=c2;have Kl:=zT bV;have asF:r.t<=W g:=Kl;cases o with
  |false=>refine ⟨.y c4 (g.n6 l (false,r.cV)),λc k=>amw c F.aa k N,λc k=>EH k (aho c F.aa N),i.LV N λu j=>⟨i.u_ cd u cg,(λa=>by cases a),.bj cg⟩,g.tR _ _,by rw[Mw N (h.dp ..)];exact I,by simp [jU.n6],U.le (v:= .az l) dR,trivial⟩
  |true=>refine ⟨.y dN (g.lE (true,r.cV)),λc k=>amv c F.aa i.aF k N,λc k=>EH k (ahn c F.aa N),i.lE (λu j=>i.u_ cd u cg) (λζ u j=>i.aF r bV u cg),g.Ci _,by rw[Mv];show W g+r.cV.t<=240;rw[h.dp];omega,by simp [jU.lE],by show _<_;simp [jU.lE],trivial⟩
 ·have xw:p.cu=false:=by simpa using bA
  obtain ⟨z,q,E⟩:=a3.aV i.m7 i.y U;rcases Va i F I xw E with rfl|B
  ·refine ⟨.y (mX g .Z z).2 (mX g .Z z).1,λc k=>amt c F.aa k xw E,λc k=>EH k (ahm c F.aa xw E),i.turn E (bb z _ E),Vd _ _ _,by rw[aqJ];exact I,by rw[Gm];exact J.bC _,?_⟩;have bi:=E.lt;clear E;rcases h.di z with rfl|⟨f,m,rfl⟩
   ·exact fy
   ·rw[h.df] at*;rw[aqh];refine fz;show m<_;simp only [jU.lC,h.cT,Mi];exact bi m bW
  ·exact ⟨.cz lq,λc k=>ams c F.aa k B,λc k=>EH k (ahl c F.aa B),trivial⟩
theorem P5 a2 cG(m:wu g) aT(a:a4 g p λv=>∃l∈z,v= .aq l):∀G∈(treeOf g p).z,G∉z:=by obtain ⟨ms,E,V,B⟩:=a;intro G as b6;have:=(m.I i.y U).ajO E (λa=>V (by unfold pD;rcases a with a|a<;>simp [a])) G as;exact B _ this ⟨G,b6,rfl⟩
set_option tactic.hygienic true in
theorem agV bq aT c1 fv aG cL(bb:∀z q,a3 g A z q->(∀m∈z,a4 g fw λv=>∃l∈z,v= .aq l)/\a4 g p λv=>∃l∈z,v= .aq l):oQ av se bY AM:=by
 obtain ⟨m,cq⟩:=Qc i aY j;by_cases bA:A.cu=true
 ·clear bb;cases A<;>try (cases bA;done)
  rename_i l;obtain ⟨⟨o,r⟩,N⟩:∃f,g.jH[l]?=x f:=⟨_,h.bz C⟩;refine ⟨y9 g p l r,λc k=>ak3 c F.aa i.aF m k N,λc k=>JK k (ahd c i.y F.aa m cq U N),?_⟩;unfold y9;have Kl:r.t<=W g:=zT bV;have asE:=Cc g p r
  split
  ·exact Cs i F I C sE
  ·exact F1 i F I C (λu j=>i.u_ cd u (h.bG.mp j).1) (λaD u j=>xd i.aF cd aD u (h.bG.mp j).1) aP
 ·have xw:A.cu=false:=by simpa using bA
  obtain ⟨z,q,E⟩:=a3.aV i.m7 i.y C;rcases Va i F I xw E with rfl|B
  ·obtain ⟨aH,aR⟩:=bb z _ E;have d4:Apart g p z:=⟨P5 i F I m U aR,λl N=>P5 i F I m (w7 i.y (z:=[l]) _ eS) (aH l N)⟩;refine ⟨.y (p9 .Z fA) (ow g .Z fA),λc k=>ak5 c F.aa i.aF m k xw E d4,λc k=>JK k (ahf c i.y F.aa m cq U xw E),i.dq E aH,jU.nW.dq _ _ _,by rw[aqG];exact I,by rw[FF];exact J.bC _,?_⟩;have bi:=E.lt;cases aD:nq g p z with
   |Z=>exact fy
   |ba M al=>refine fz;show M<_;rw[FG];exact bi M (h.bG.mp (show M∈nq g p z by rw[aD];simp)).1
  ·exact ⟨.cz lq,λc k=>ak4 c F.aa k B,λc k=>JK k (ahe c F.aa B),trivial⟩
end
mutual
section
set_option eo 100000
noncomputable def Mc cj c6:aM jI:=ak (AF [X]) λy0=>k6 .Not y0 λy1=>jY y1 λy2=>(match y2 with|true=>bH c7|false=>ap a M)
noncomputable def U3 cj c6:aM jI:=ak (dc (.bD [(.str Bq),M])) λy0=>ak (jN .da a y0) λy1=>(match y1 with|true=>bH c7|false=>Mc ap X a M)
noncomputable def apJ cj c6:aM jI:=ak (jT X (.str wQ)) λy0=>ak (mG fC y0 lJ) λζ=>ak (lQ fC y0 lJ [M]) λζ=>Mc ap X a M
noncomputable def U4 cj c6:aM jI:=ak (jT a (.bB 0)) λy0=>ak (jN .da y0 (.str Ek)) λy1=>(match y1 with|true=>bH c7|false=>ak (jT a (.bB 1)) λy0=>ak (rZ [X,y0,M]) λy1=>k6 .Not y1 λy2=>jY y2 λy3=>(match y3 with|true=>bH c7|false=>apJ ap X a M))
noncomputable def apI cj(X aC args aX:jD):aM jI:=ak (yp [aC,aX]) λa=>ak (l9 [X,aC,args]) λM=>ak (j8 .ei [M,.d8 .str]) λy2=>jY y2 λy3=>(match y3 with|true=>U3 ap X a M|false=>U4 ap X a M)
noncomputable def Mb cj(X aC args:jD):aM jI:=ak (m9 args) λy0=>ak (ki y0.guard (λy1=>ak (ym [X,y1]) λy2=>bH [y2]) y0.items) λy3=>ak (dc (.bD y3)) (apI ap X aC args)
noncomputable def tA(ap:jD->jD->jD->jD->aM jI)(a0 X aC:jD):aM jI:=ak (wj [a0,X,aC]) λy1=>ak (vn [X,aC,y1]) λy2=>jY y2 λy3=>(match y3 with|true=>lY y1 (x (.bB (-1))) none none λam=>Mb (ap fE am) X fE am|false=>Mb (ap aC y1) X aC y1)
noncomputable def U5 c8(a0 X be y1:jD):b2->aM jI
 |true=>ak (q3 [a0,be]) fF
 |false=>lY be (x (.bB 8)) (x (.bB 12)) none λy3=>lY be (x (.bB 14)) (x (.bB 16)) none λkU=>ak (kh .Add y3 kU) λy0=>ak (q3 [a0,y0]) fF
noncomputable def apQ c8(a0 X be xX kQ:jD):aM jI:=ak (j8 .sum [kQ]) λy0=>ak (kh .Add xX y0) λy1=>ak (jN .Lt y1 (.bB 60)) (U5 ap a0 X be y1)
noncomputable def apM c8(a0 X be xX:jD)(vs:h jD):aM jI:=ak (dc (.bD vs)) (apQ ap a0 X be xX)
noncomputable def Me c8(a0 X be:jD):aM jI:=ak (jT X (.str vG)) λMH=>ak (j8 .len [MH]) λxX=>ak (jT X (.str wX)) λkQ=>ak (m9 kQ) λy0=>ak (ki y0.guard (λy1=>unpackK y1 λy2=>two y2 λy3 y4=>ak (j8 .len [y4]) λy5=>bH [y5]) y0.items) (apM ap a0 X be xX)
theorem apO(p qd nc j0:jD)(tZ t6 qp tY qq rL:db jD)(Au:jD)(pQ rM o_args tW tV:db jD):DQ p (wD qd nc j0 tZ t6 qp tY qq rL Au pQ rM o_args tW tV)=
  Me (λmany aC args a M=>bH (.next (wD qd nc j0 tZ (x p) qp tY qq rL Au (x many) (x aC) (x args) (x a) (x M)))) nc j0 Au:=e
theorem L7(ay:cm):j4 ay ay=true:=n8.mpr rfl
theorem al9 dG{bE G:J}{ay D:cm}(a:O[bE]?=x fG)(P:O[G]?=x fG):jN .da cM bK O=x (.y false,O):=by
 show look (λO=>(eqv O 4 cM bK).bl not) O=_;unfold look;dsimp only;have:eqv O 4 cM bK=x true:=by rw[JT a P];show o_ (eqv O 3) dU dU=_;show x (j4 ay ay&&(j4 D D&&true))=_;rw[L7,L7];rfl
 rw[this];rfl
theorem akg fH fI:j8 .ei [tv v,.d8 .str] O=x (.y fB,O):=by cases v<;>rfl
mutual
section
variable {f4:Type}{O Q:jE}{S jM:kD}{K:kG}{G D:J}{L:ax}{args:h R}{ap:jD->jD->aM jI}{aK:jI->jE->Prop}{aU:jD->jE->Prop}
theorem nG.aj{nt:h R} bX(aZ:qh fJ)(a:∀u∈K.aj,u∈nt):nG ck L fJ:=
 ⟨b.cR,b.i,aZ,λv w=>⟨(b.pl v w).1,(b.pl v w).2.1,λU=>a v ((b.pl v w).2.2 U)⟩,b.I,J.aO b.a7 dV,J.aO b.px dV,J.aO b.l7 dV,b.ne,b.p0,b.p1,b.al⟩
theorem R_ fH:([v].bx lz).t<=1:=h.length_filter_le _ _
theorem nG.ca bX bf bs{kn:h R} fK(aZ:qh fL)(a:∀u∈K.aj,u∈kn)(w:lz v=true->v∈kn):nG ck L fL:=by
 obtain ⟨J3,le,I,a7,lN,K3⟩:=a5;refine ⟨rfl,J3.sub λu j=>h.bm.mpr (.bj j),aZ,λu j=>?_,I,J.aO a7 (J.er b.a7),?_,?_,h.append_ne_nil_of_right_ne_nil _ (h.cons_ne_nil _ _),b.p0,b.p1,b.al⟩
 ·rcases h.bm.mp j with j|j
  ·exact ⟨(b.pl u j).1.le le,(b.pl u j).2.1,λU=>a u ((b.pl u j).2.2 U)⟩
  ·rw[h.bn.mp j];exact ⟨lN,K3,w⟩
 ·show ((K.H++[v]).bx lz).t<=_;rw[h.ea,h.dm];exact (J.add_le_add b.px (R_ v):_<=4+D+1)
 ·show (K.H++[v]).t<=_;rw[h.dm];exact (J.d3 b.l7 1:_<=8+D+1)
theorem apH bX(n:D<=16) fN(X:a6 O S K Q jM K)(aA:jM .cA=bE){a M:jD}(a1:∀nt jJ,a6 O S K jJ jM fO->qh fO->(∀u∈K.aj,u∈nt)->aQ (ap a M jJ) aK aU):aQ (Mc ap cM a M Q) aK aU:=by rw[<-aA];exact EY X.bk b.cR fP b.kn λnt jJ ay aZ L=>a1 nt jJ (X.aI ay) aZ L
theorem apK bX c9{ay:cm}(as:Q[G]?=x (.bD [.str Bq,.str ay]))(X:a6 O S K Q S K)(a1:∀{jJ w'},a6 O S K jJ S w'->nG ck L w'->aQ (ap bK fQ jJ) aK aU):aQ (U3 ap dX bK fQ Q) aK aU:=
 kL bt λjJ f i=>bw (al9 (kZ f as) i) (apH b (J.le_succ_of_le n) (X.ca f) rfl λnt lT ay aZ L=>a1 ay (b.aj aZ L))
theorem r9.F{d W':jU} fi bf(a5:r9 d af (.y v W'))(a:d.jH.t<=99):r_ W':=by
 obtain ⟨J3,le,I,a7,lN,K3⟩:=a5;refine ⟨?_,J.aO a7 (J.er a),λf s=>?_⟩
 ·exact J.aO (J.aO (J.le_add_right _ _) I) bt
 ·exact J.aO (J.aO (zT s) I) bt
theorem apL bX c9 bf bs fK fN{u:jD}(as:Q[G]?=x (.bD [.str Ek,u]))(j:lv jM v=u)(V:jM .cA=bE)(X:a6 O S K Q jM ⟨d,d,K.H,K.aj,K.ar,K.ao⟩)(a1:∀{jJ w'},a6 O S K jJ jM w'->nG ck L w'->aQ (ap bK fS jJ) aK aU):aQ (U4 ap cM bK fS Q) aK aU:=by refine bw (nI (b:=0) as rfl rfl) (Ai (L7 _) (bw (nI (b:=1) as rfl rfl) ?_));rw[<-j,<-V];have F:=a5.F (J.aO b.a7 (J.aO (J.d2 n 2) bt));obtain ⟨J3,le,I,a7,lN,K3⟩:=eh a5;refine L0 X.bk rfl F ⟨b.kn.nd,λu j=>⟨(b.kn.p u j).1.le le,(b.kn.p u j).2⟩⟩ lN λnt vg s1 Ol d7 v1=>?_;have oS:=s1.bk;refine bw (L3 oS) (bw (v7 oS.H) (bw (yV oS.H (by rw[h.dn];exact J.em b.l7 (J.em (J.d2 n 8) bt))) ?_));have s2:=UX (a6.refl oS) (K.H++[v]);rw[h.en] at s2;exact EY s2.bk rfl F ⟨Ol.nd,Ol.p⟩ λasM lT s3 abn dd=>a1 (((X.aI s1).aI s2).aI s3) (b.ca a5 abn (λu a=>dd u (d7 u a)) λa=>dd v (v1 a))
theorem U1 bX c9(c:bL O S K)(as:O[G]?=x (.bD fU))(bd:Off S K G)(a8:∀v∈args,jP K.g v/\fg)(hal:args.t<=1000000) dY fV fW
  fY fZ(a5:oQ K aC args ah)(a1:∀{a M Q jM w'},a6 O S K Q jM w'->nG ck L w'->aQ (ap a M Q) aK aU):
  aQ (Mb ap dX cO bK O) aK aU:=by
 obtain ⟨aB,D1,D2,N9⟩:=a5;have okd:∀v∈args,jP K.a5 v:=λv w=>by rw[b.cR];exact (a8 v w).1
 have bi:=oK as;refine bw (nX as) (amZ c as (λv w=>(a8 v w).2) (kL (by rw[h.dn];exact hal) λQ f i=>told (c.cS f) ⟨i,c.bd f0,λv w=>(a8 v w).1⟩ aH (aR _) λ{a_} p' I' A'=>?_));have dg:=D1 I' A';cases aB with
 |cz ay=>exact aQ.cv (aK:=No) dg (λζ ζ a=>a.bh) λq vg o=>⟨ay,o.1,λamd lT p2 ζ b5=>by have p3:=((f.aI p').aI o.2).aI p2;refine lU (D2 (W':=K.g) (c.cS p3) ⟨kZ p3 as,bd,okd⟩) f1 λζ ζ a=>a.bh;rw[ab.1];exact apK b n (kZ ab.2 b5) (a6.cS c (p3.aI ab.2)) a1⟩
 |y v d=>refine aQ.cv (aU:=No) dg (λp vg o amd lT p2 ai b5=>?_) λζ ζ a=>a.bh;obtain ⟨ase,q,s1⟩:=o;have s2:=(a6.cS c (f.aI p')).aI (s1.ca p2);have aA:=s2.X.l7 .cA trivial rfl;rw[q] at b5;have dh:=D2 s2.bk ⟨(s2.same bi bd).aI as,s2.bd bi bd,okd⟩;rw[aA] at dh;refine lU dh f1 λζ ζ a=>a.bh;obtain ⟨aex,b4,s3⟩:=ab;rw[b4];exact bw (akg v qL) (apL b n N9 ((s3.same (oK b5) (s1.bk.bd ai)).aI b5) (s3.lv N9.2.2.2.2.1) ((s3.X.l7 .cA trivial rfl).aI aA) (s2.aI s3) a1)
end
end
mutual
section
set_option eo 100000
theorem nG.bv fh{L m f:ax}{g:jU}{H aj:h R}{ar:h ax}{ao:ax} f2(ec:ao<=f)(aH:f<=ao+m):nG D (L+m) b0:=
 ⟨rfl,b.i,⟨b.kn.nd,b.kn.p⟩,b.pl,b.I,b.a7,b.px,b.l7,b.ne,ax.aO b.p0 ec,ax.aO aH (ax.d3 b.p1 m),b.al⟩
mutual
section
variable {O:jE}{S:kD}{g:jU}{H aj:h R}{ar:h ax}{ao:ax}{D:J}{L:ax}
theorem agD bJ(a:args≠[]):cut fU (x (-1)) none=[args.dj a].bl tv:=by have q:=congrArg (h.bl tv) (h.dropLast_concat_getLast a);rw[h.en] at q;rw[<-q];exact agF _ _
noncomputable def aE fI(S:kD)(g:jU)(H aj:h R)(ar:h ax)(ao:ax)(D:J)(L:ax) fd:Prop:=
 ∀{ap:jD->jD->jD->jD->aM jI} {aK:jI->jE->Prop} {aU:jD->jE->Prop},(∀{u am a M Q jM w'},a6 O S av Q jM w'->nG ck es w'->aQ (ap u am a M Q) aK aU)->aQ (tA ap (.bo et) dX cO O) aK aU
theorem pJ f2 c9(c:bL O S av) dY fV fW(af:h R->Prop)
  fY fZ
  (hargs:aQ (wj [.bo et,.bo dK,.str aC] O) (λal a_=>Got O S av a_ af al) dv)
  (aY:∀args,af args->args≠[]/\args.t<=3/\∀v∈args,jP g v/\bT)
  (ajC:∀eu dI bJ ev,af args->bL Q S b0->nP Q S b0 G args->
   aQ ew (λal a_=>∃o,al= .de o/\Q<+:a_/\(o=false->oQ b0 aC args ah)) dv):
  aE O S g H aj ar ao D L aC:=by
 intro ap aK aU a1;refine lU hargs (λal Q d1=>?_) λζ ζ a=>a.bh;induction d1 with
 |@mk args G f as X hp1 hp2 bd hnl hPa=>
  have k1:nG D es b0:=b.bv hp1 hp2;obtain ⟨aW,hlen,w⟩:=aY args hPa;have ds:Off S b0 G:=λal b7=>bd al (by cases al<;>exact b7);refine lU (ajC hPa X.bk ⟨as,ds,λv a=>(w v a).1⟩) (λal lT ab=>?_) λζ ζ a=>a.bh;obtain ⟨o,q,pr,aS⟩:=ab;rw[q];have st2:=X.ca pr;have pA:=st2.bk;cases o with
  |true=>have j:=w _ (h.getLast_mem aW);rw[CR];dsimp only;rw[UK ey (l':=[args.dj aW].bl tv) (agD aW) bt];have st3:=st2.ca (l8 lT (.bD ([args.dj aW].bl tv)));exact U1 k1 n st3.bk (mO _ _) (pA.bd f0) (λv a=>h.bn.mp a▸j) bt (aC:=uz) (i:=425) (ah:=yv) e aJ (Qv b.i fP b.I j.1) λay aZ=>a1 (st3.aI ay) aZ
  |false=>exact U1 k1 n pA ey ds w (J.aO hlen bt) aH aR (aS rfl) λay aZ=>a1 (st2.aI ay) aZ
variable (b:nG D L av)(n:D<=15)(B:L<=9000)(c:bL O S av)
include b n B c
theorem anc:ao<=9000:=by have:=b.p1;replace this:ao<=L:=this;omega
theorem ny bf ez:jP g v/\bT:=⟨(b.pl v a).1,(b.pl v a).2.2⟩
theorem Lv bf ez:pV g H v:=⟨(b.pl v a).1,λζ=>a,(b.pl v a).2.1⟩
theorem x7:r_ g:=b.F aP
theorem anm:(H.bx lz).t<=19:=by have a:(H.bx lz).t<=4+D:=b.px;omega
theorem aoK bJ(a:∃p∈H,args=cf):args≠[]/\args.t<=3/\∀v∈args,jP g v/\bT:=by obtain ⟨A,C,rfl⟩:=a;exact ⟨by simp,by simp,λv w=>by rw[h.bn.mp w];exact ny b n B c C⟩
theorem rN dY eu dI ev{aK:Prop}(ad:bL Q S b0)(aH:∀Q:jE,jN .In cO (.tup [(.str uC),(.str sr),(.str uy)]) Q=x eA)(aR:∀Q:jE,jN .In cO (.tup [(.str se),(.str uA)]) Q=x eA)(ed:aK):
  aQ ew (λal a_=>∃o,al= .de o/\Q<+:a_/\(o=false->aK)) dv:=by
 rw[aoc ad aH aR];exact ⟨false,rfl,h.prefix_refl _,λζ=>ed⟩
theorem arb:aE O S g H aj ar ao D L uz:=by refine pJ b n c _ (i:=425) (ah:=yv) e aJ cB cC ?_;rintro Q G args f ⟨A,C,rfl⟩ ad k;exact rN b n B c ad T T (Qv b.i aL b.I (ny b n B c C).1)
theorem aq7:aE O S g H aj ar ao D L wL:=by refine pJ b n c _ (i:=418) (ah:=AO) e aJ cB cC ?_;rintro Q G args f ⟨A,C,rfl⟩ ad k;exact rN b n B c ad T T (agY b.i aL b.I (ny b n B c C).1)
theorem aq3 aG:aE O S g H aj ar ao D L wR:=by refine pJ b n c _ (i:=488) (ah:=AL) e aJ cB cC ?_;rintro Q G args f ⟨A,C,rfl⟩ ad k;exact rN b n B c ad T T (agU b.i aL b.I (ny b n B c C).1 j)
theorem ara aG:aE O S g H aj ar ao D L wO:=by refine pJ b n c _ (i:=495) (ah:=yu) e aJ cB cC ?_;rintro Q G args f ⟨A,C,rfl⟩ ad k;exact rN b n B c ad T T (ag2 b.i aL b.I (ny b n B c C).1 j)
theorem ami:(nodes g).t<=900:=by have:=(x7 b n B c).nodes;omega
theorem aq9 aG:aE O S g H aj ar ao D L uA:=by
 refine pJ b n c _ (i:=502) (ah:=AQ) e aJ cB cC ?_;rintro Q G args f ⟨A,C,rfl⟩ ad k;have bc:=(ny b n B c C).1;obtain ⟨z,q,E⟩:=a3.aV b.i.m7 b.i.y bc;exact Ut (pre':=[]) ad b.i.y (x7 b n B c).aa cD k T T E eB λa ζ Q pr=>⟨_,rfl,pr,λζ=>ag0 b.i aL b.I bc b.I (λcs' e' b1=>by have:=(E.det b1).1;clear b1;subst this;exact a) j⟩
theorem aoL bJ(a:∃p∈H,∃b:ax,args=c3/\ -1<=b/\b<=4):args≠[]/\args.t<=3/\∀v∈args,jP g v/\bT:=by
 obtain ⟨A,C,au,rfl,_⟩:=a;refine cE;simp only [h.bS,h.cw,cx] at w;rcases w with rfl|rfl
 ·exact ny b n B c C
 ·exact cW
theorem aq5:aE O S g H aj ar ao D L tn:=by refine pJ b n c _ (i:=432) (ah:=yt) e aJ eD eE ?_;rintro Q G args f ⟨A,C,au,rfl,_⟩ ad k;exact rN b n B c ad T T (agW b.i aL b.I (ny b n B c C).1)
theorem aq0:aE O S g H aj ar ao D L yR:=by refine pJ b n c _ (i:=439) (ah:=yr) e aJ eD eE ?_;rintro Q G args f ⟨A,C,au,rfl,_⟩ ad k;exact rN b n B c ad T T (agR b.i aL b.I (ny b n B c C).1)
theorem aq1:aE O S g H aj ar ao D L sr:=by
 refine pJ b n c _ (i:=446) (ah:=AJ) e aJ (afa c b.p0 bU b.al b.ne T T e) ?_ ?_
 ·rintro args ⟨A,C,ab,ag,au,rfl,_⟩;refine cE;simp only [h.bS,h.cw,cx] at w;rcases w with rfl|rfl|rfl
  ·exact ny b n B c C
  ·exact cW
  ·exact ny b n B c ag
 ·rintro Q G args f ⟨A,C,ab,ag,au,rfl,_⟩ ad k;exact (LP (p:=A) (mid:=[.num au]) (u:=ab) ad b.i.y (x7 b n B c).aa cD k T).cv (λal a_ m=>m.bh λo m=>⟨o,m.1,m.2.1,λa=>agS b.i aL b.I (ny b n B c C).1 eF dw⟩) λζ ζ a=>a
theorem aoN bJ(a:∃p∈H,∃A∈H,args=bY):args≠[]/\args.t<=3/\∀v∈args,jP g v/\bT:=by
 obtain ⟨A,C,ab,ag,rfl⟩:=a;refine cE;simp only [h.bS,h.cw,cx] at w;rcases w with rfl|rfl
 ·exact ny b n B c C
 ·exact ny b n B c ag
theorem aq6:aE O S g H aj ar ao D L uy:=by refine pJ b n c _ (i:=453) (ah:=AN) e aJ dx dy ?_;rintro Q G args f ⟨A,C,ab,ag,rfl⟩ ad k;exact (LP (p:=A) (mid:=[]) (u:=ab) ad b.i.y (x7 b n B c).aa cD k T).cv (λal a_ m=>m.bh λo m=>⟨o,m.1,m.2.1,λa=>agX b.i aL b.I (ny b n B c C).1 (b.pl A C).2.1 eF dw⟩) λζ ζ a=>a
theorem arc:aE O S g H aj ar ao D L uC:=by refine pJ b n c _ (i:=284) (ah:=AS) e aJ dx dy ?_;rintro Q G args f ⟨A,C,ab,ag,rfl⟩ ad k;exact (LP (p:=A) (mid:=[]) (u:=ab) ad b.i.y (x7 b n B c).aa cD k T).cv (λal a_ m=>m.bh λo m=>⟨o,m.1,m.2.1,λa=>ag3 b.i aL b.I (ny b n B c C).1 (ny b n B c ag).1 (b.pl ab ag).2.1 dw⟩) λζ ζ a=>a
theorem aq2 aG:aE O S g H aj ar ao D L vD:=by refine pJ b n c _ (i:=277) (ah:=AK) e aJ dx dy ?_;rintro Q G args f ⟨A,C,ab,ag,rfl⟩ ad k;exact rN b n B c ad T T (agT b.i aL b.I eH (ny b n B c ag).1 (b.pl ab ag).2.1 j)
theorem aq8 aG:aE O S g H aj ar ao D L uB:=by
 refine pJ b n c _ (i:=467) (ah:=AP) e aJ (afc c b.p0 bU b.al b.ne T T e e) ?_ ?_
 ·rintro args ⟨A,C,au,rfl,_⟩;refine cE;simp only [h.bS,h.cw,cx] at w;rcases w with rfl|rfl
  ·exact cW
  ·exact ny b n B c C
 ·rintro Q G args f ⟨A,C,au,rfl,_,ef⟩ ad k;exact rN b n B c ad T T (agZ b.i aL b.I ef eH j)
theorem aoM bJ(a:args≠[]/\args.t<=3/\∀v∈args,v∈H):args≠[]/\args.t<=3/\∀v∈args,jP g v/\bT:=
 ⟨a.1,a.2.1,λv w=>ny b n B c (a.2.2 v w)⟩
theorem arf aG:aE O S g H aj ar ao D L vB:=by refine pJ b n c _ (i:=460) (ah:=AV) e aJ dz dA ?_;rintro Q G args f ⟨aW,ai,V⟩ ad k;exact rN b n B c ad T T (ag5 b.i aL b.I (λv w=>Lv b n B c eI) ai j)
theorem ard aG:aE O S g H aj ar ao D L wN:=by refine pJ b n c _ (i:=481) (ah:=AU) e aJ dz dA ?_;rintro Q G args f ⟨aW,ai,V⟩ ad k;exact rN b n B c ad T T (ag4 b.i aL b.I (λv w=>(ny b n B c eI).1) ai j)
theorem aqZ aG:aE O S g H aj ar ao D L lJ:=by
 refine pJ b n c _ (i:=474) (ah:=AI) e aJ dz dA ?_;rintro Q G args f ⟨aW,ai,V⟩ ad k;refine rN b n B c ad T T ?_;clear k;rcases h.di args with rfl|⟨pre,u,rfl⟩
 ·exact cQ rfl aW
 ·rw[h.df] at*;have vL:=V u bW;exact agQ b.i aL b.I (λv w=>(ny b n B c (V v (by simp [w]))).1) (ny b n B c vL).1 (b.pl u vL).2.1 (by simp at ai;omega) j
theorem LY bJ(a:∃p,∃A∈H,args=bY/\(p∈H\/∃b:ax,p= .num b/\0<=b/\b<=2)):args≠[]/\args.t<=3/\∀v∈args,jP g v/\bT:=by
 obtain ⟨A,ab,ag,rfl,C⟩:=a;refine cE;simp only [h.bS,h.cw,cx] at w;rcases w with rfl|rfl
 ·rcases C with C|⟨au,rfl,_⟩
  ·exact ny b n B c C
  ·exact cW
 ·exact ny b n B c ag
theorem aq_ aG:aE O S g H aj ar ao D L wM:=by refine pJ b n c _ (i:=512) (ah:=AR) e aJ eJ eK ?_;intro Q G args f aY ad k;have ct:=(LY b n B c aY).2.2;clear k;obtain ⟨A,ab,ag,rfl,C⟩:=aY;exact rN b n B c ad T T (ag1 b.i aL b.I (ct A bW).1 (ct ab bW).1 eM j)
theorem aq4 aG:aE O S g H aj ar ao D L se:=by
 refine pJ b n c _ (i:=507) (ah:=AM) e aJ eJ eK ?_;intro Q G args f aY ad k;have ct:=(LY b n B c aY).2.2;obtain ⟨A,ab,ag,rfl,C⟩:=aY;have bc:=(ny b n B c ag).1;obtain ⟨z,q,E⟩:=a3.aV b.i.m7 b.i.y bc;exact Ut (pre':=[A]) ad b.i.y (x7 b n B c).aa cD k T T E eB λa P Q pr=>⟨_,rfl,pr,λζ=>agV b.i aL b.I (ct A bW).1 bc eM j (b.pl ab ag).2.1 (λcs' e' b1=>by have:=(E.det b1).1;clear b1;subst this;exact ⟨a,P e A [] rfl⟩)⟩
end
end
end
mutual
example _ h e k w List Nat a p Int b l x i some jD c n o ζ length u v σ q τ r ad L kC j t K hu st m d int le_trans e2 h2 bnd congrArg h1 hb hp pool s N[by decide]bo map F _ _ _ _ _ _ _ _ _ _ _ Q mU ac obj row al e1 pos E ht trans[f.eT rfl]I hi hl nil off items P «at» Res Value list Option hc ho J h3 hx known y C cd hv M g hN hs hw length_map ref Step all_eq_true D V eq f get? hj script Heap Str h6 inv state take[by kernel_rfl]ar cls cons ft_ g3 hB hd hm ns_(an:m<=3)made[m+1]h5 hL hf hk hn hq le_refl more mpr ret[ax.n.bx a](V:o->o->o->o->aI jI)Data H Inv as hD inj «by»[⟨B,B,T,aD,ae,ah⟩]{q:f}[(x,ts)][(m:i)]{d:kG}{α:Type}T W absurd add_le_add_left dk elim g1 h4 hl3 h₀ it keeps not_mem_nil units z[.ad (A .a2)][(q:i)]{m:f}(c:rj m d)[by omega]σ' Addr B Bool alloc bs cells cut data ds h0 heap hmg inl length_append maxRecDepth step sub vals{v:av}{l:aZ}[mO _ _]{w:jE}{ts:e aS}[Pk y _ rfl]Name PySem Role True ab add_le_add_right bn bool dd dict ex fd hlay hpre hr hy of_isNs same slots toList toNat word words{v:bs}{F:Frag}{p:f}(a_:644<=b1)[(·.1)]{a:aY}(ae:e i)[⟨B,B,T,aD,ae,ah+1⟩](aj:E<=15){j:i}(w:jE){u:aS}(a:r8 u)(ao:ts.t<=3)(nm:∀u∈ts,r8 u)[oK mV][n D][(by rw[ay];rfl)][nomatch S]{A:kD}[.ad J][.ad U][(m.dr:i)]ClassData add_assoc add_comm add_le_add add_nonneg bt dr end_ eq_of_beq_eq_true fields filter fn func glob hQ isSome_iff_exists keepIn le_of_eq «do» length_range mem_cons natAbs nodup_nil ofNat_le params range refl said start succ_le_succ zero[.str sr]{g:f}{k:e α}[.str uy][(P (·.2.1) b)][(·.2.2.1)](am:bu w A bz){V:o->o->o->o->o->aI jI}[.str wL][.str uz][j+1](c:nG E j bz)(R:j<=8000)[A .mC][.ad dO][.ad wl][.head _][yU _ _ _][e.cons_ne_nil _ _][Vo V H th oz y0][.K 2](bG:jU)(Z:wI m d)[f.eS _ _](aK:∀{th oz va nv y jM w'},aP w A w0 y jM w'->rj bf w'->au (V th oz va nv y) aa ai){D:f}{y:jE}[λs=>cq][f.L ao al](aW:D<=4){D:i}(am:bu w A d)[f.zero_le _][.str tn][⟨[],[]⟩]{ae:e i}[w0 ae][nomatch a][.str yR][⟨trivial,⟨W,W⟩,λa=>by cases a⟩][.tK k][by rfl]Assign Attribute Challenge G IntsAre R Y a1 a2 a3 a4 a5 a6 abstract b1 b2 cl collection da dec_lt defaults e3 e6 fa filterMap g2 getElem?_eq_getElem getElem_map hG hI hT hasDel hasDict hg inClass isSome kw_defaults le_add_of_nonneg_right le_add_right le_of_ble_eq_true le_of_lt_add_one length_le lookup lt_of_le_of_lt lt_of_lt_of_eq lt_of_lt_of_le lt_size mainGlobals map_map mem_append mem_of_getElem? mul_add mul_le_mul_left mul_le_mul_of_nonneg_left natCast_nonneg nil_of of_decide_eq_true qualname slotNames subclasses sumInts toArray toNat_le[.str lJ]{as:α->Prop}{as:Prop}{v:o}{g:Array av}[.tail _ S][.aO g][.aO 38][.aO 35][f.eZ (f.eT M) a_]{h:f×Stmt×e o}[(P cO b)][(·.2.1)][(P dG b)][(·.2.2.2.1)][(P fu b)][(·.2.2.2.2.1)][(P fw b)][jO 2][eO fy 0]{g:b0}{r:Obj}[.str vB][(P cO b:_=true)](ok:aF.Ok)[(643,jO 84,[])][Oe 69 a4][e.e4 S][ns.Y .K][(λa:aY=>a.objs.size)][λa=>nomatch a][.str vD]{V:o->o->o->o->aI jI}[E+1][j+10][i.eR W][(H.ak U).ak s2](R:j+1<=9000)(aA:bu y A cR)(F:nG E dL cR)[⟨_,rfl,aq5 F aj R aA⟩][⟨_,rfl,aq0 F aj R aA⟩][⟨_,rfl,aq1 F aj R aA⟩][⟨_,rfl,aq6 F aj R aA⟩][⟨_,rfl,aq7 F aj R aA⟩][⟨_,rfl,arb F aj R aA⟩]{k:e f}[⟨_,rfl,aqZ F aj R aA G⟩][⟨_,rfl,aq9 F aj R aA G⟩][⟨_,rfl,aq2 F aj R aA G⟩][(k.Y λq:f=>o.K bV)]{wl:f}[.aw VG](aM:w[wl]?=n f6)(TP:Off A bz wl)(aK:∀{I u g a J y jM w'},aP w A bz y jM w'->nG fN fO w'->au (V I u g a J y) aa ai)[A (.ey m)][(SD B.jH[m]?:f)][Cm _ _ _][bS B<60][[d8,ec,dB,dE]][[dJ,dK]][l8 _ _][lz v=true->v∈d.aD](H th oz va nv:o)[tb yF](vs:e o)[b3 (.aw vs)][.K 1][.K 3][qe [bJ,gm]](A jM:kD)[f.dz an][⟨f.L dY Q,N,λh S=>f.L (zT S) Q⟩]{v:aS}(aH:jP d.B v)(vX:nb v)[⟨d.B,d.aR,d.T++[v],kn,d.ae,d.ah⟩][V th oz va nv y][ts.Y tv]{n3 n4:f}(a9:y[n3]?=n (.aw gw))(mV:y[n4]?=n (.aw (ts.Y (lv A))))(aq:Off A d n4){el:Type}(H:aP w A w0 y A d)(bw:d.aR=d.B)[.ad n3][.ad n4]{k l':e o}[aP.dw H.a1][λu G=>(nm u G).jP _]{c:o->aI el}[.aw k]{x:b2}[.str (x6 x)][n m]{ah:i}(ao:l'.t<=1000000)[⟨c.kn.nd,λu G=>⟨(c.kn.l u G).1.le le,(c.kn.l u G).2⟩⟩][.ad q][⟨(c.pl u G).1.le le,(c.pl u G).2⟩][f.le_succ m][f.sub_le_sub_right gT 2][.K m](a:0<=D)(aK:∀{th oz va nv y jM w'},aP w A d y jM w'->rj bf w'->au gv aa ai)[.K bC][n (.K D)][(by rw[e.aN];exact bh)][.ad w.t][f.bm _][kZ p4 a9][w++[.aw l']](q:f){r:ko}[⟨λh S=>c2,λh S=>c2⟩][oV w ao]{aa:jI->jE->Prop}(ag:A .mC=J)(M:A .a2=U)[.cu true](dk:∀y,aa hb y)(z:e o)[n l][(H.H.l7 .mC trivial rfl).ak ag][(H.H.l7 .a2 trivial rfl).ak M](m:f){E:f}[oK a9][[.tK (aX.Y .K)]][(aX.a3 63).Y o.K]dV dl el ep es:True:=x
mutual
section
set_option cd 100000
noncomputable def VF:e o:=[fg,fg,(.str wN),(.str wR),(.str wO),(.str uA),(.str se),(.str wM),d8,ec]
noncomputable def VH:e o:=[dB,dE,fC,(.str uB),dJ,dK,fL,fL,(.str uC)]
noncomputable def VG:e o:=(VF++VH)++[.str uA]
noncomputable def arv:e o:=[d8,ec,dB,dE,dJ,dK]
theorem apy f0(a:∀q∈k,q<=1000000):fd f4=n ((k.sum:f):i):=by
 induction k with
 |ap=>rfl
 |a7 q z ih=>refine (j7 rfl).ak ?_;rw[UO (a q dR)];refine (j7 (ih λI bb=>a I (.tail _ bb))).ak (P n ?_);rw[e.sum_cons];rfl
theorem apA ck bA f0(a:w[q]?=n (.aw f4))(ao:∀I∈k,I<=1000000):j8 .sum [.ad q] w=n (.ok (.K ((k.sum:f):i)),w):=
 (nS ((j7 (pN a)).ak (j7 (apy ao))):look (λw=>ob (l_ w q) λk=>ob (fd k) λm=>n (o.K m)) w=_)
theorem UL gB ck bA gG{m D:i} gJ(a:w[q]?=n gK)(ay:b6 k gN c0=l') gP:lY gR (n gV) gZ none c w=c g1 g4:=by show O (ry gR) _ w=_;rw[jX (Jl a)];show O (b3 (.aw (b6 k gN c0))) c w=_;rw[ay,jX g8]
theorem anM{α β:Type}(k:e α)(aU:ax α->β):(e.dv k.t).Y (λm=>aU k[m]?)=k.Y λl=>aU he:=
 e.ext_getElem (by rw[e.aN,e.aN,e.dp]) λm a s=>by rw[e.eH,e.eH,e.getElem_range,e.eG]
noncomputable def SD:ax (b2×e aS)->f
 |n h=>h.2.t
 |none=>0
theorem nG.up hi{j b':i} bD(a:j<=b')(c:nG E j d):nG E b' d:=⟨c.aT,c.aJ,c.kn,c.pl,c.un,c.a5,c.px,c.l7,c.ne,c.p0,i.L c.p1 a,c.z⟩
theorem af bE fh{g:α} dD(a:as g)(E:∀I∈k,as I):∀I∈g::k,as I:=λI bb=>(e.dq.mp bb).bK (λb=>b▸a) (E I)
theorem Pj bE fh:∀I∈([]:e α),as I:=λI bb=>bH bb e.bR
mutual
section
variable {w y:jE}{A:kD}{B:jU}{T aD:e aS}{ae:e i}{ah:i}{E:f}{j:i}{aa:jI->jE->Prop}{ai:o->jE->Prop}
theorem aqF dH:(((e.dv B.b5.t).Y λm=>o.ad (A (.mz m))).t:i)+((((B.jH.Y λh=>h.2.t).sum:f)):i)=((bS B:f):i):=by unfold bS;rw[e.aN,e.dp];exact (i.natCast_add _ _).symm
theorem apR dI{bJ H cJ aE:o}(a:au (lY cJ (n (.K 8)) (n (.K 12)) none (λy3=>lY cJ (n (.K 14)) (n (.K 16)) none λkU=>O (kh .Add y3 kU) λy0=>O (q3 [bJ,y0]) (tA (V aE) bJ H)) y) aa ai):au (U5 V bJ H cJ aE false y) aa ai:=a
theorem ez{l aE:i} bA(b:l+aE=bV):decide (l+aE<60)=decide (q<60):=decide_eq_decide.bo (by rw[b];exact i.ofNat_lt (I:=60))
noncomputable abbrev IS(A:kD)(B:jU)(T aD:e aS) cQ(ah:i)(E:f)(j:i)(y:jE)(I:o):Prop:=∃cI,I= .str cI/\Goal y A B T aD ae (ah+1) E dL cI
theorem T5 dM dN(H:aP w A bz y A bz) bA{k:e o}(bk:y[q]?=n gK)(ne:q≠A .mC)(ao:k≠[])(bj:∀{jJ},bu jJ A cR->nG E dL cR->∀I∈k,IS A B T aD ae ah E j jJ I)
  fM(aK:∀{u g a J y jM w'},aP w A bz y jM w'->nG fN fO w'->au (V u g a J y) aa ai):au (O (q3 [.ad dO,.ad q]) (tA V dP bU) y) aa ai:=
 lU (T4 H.a1 ⟨c.p0,i.L c.p1 (i.L R W),c.z⟩ bk ne ao) (λz lT bT=>by obtain ⟨bb,_,U⟩:=bT;obtain ⟨cI,b,eI⟩:=bj U.a1 (c.at_ fP (i.bm _)) z bb;rw[b];exact eI λs2 F=>aK fQ (F.up (by rw[i.c8];exact i.bI W j))) λs s a=>a.bK
theorem afv cS fR fS fT:∀I∈arv,IS A B T aD ae ah E j y I:=
 af fU (af fV (af fW (af fX (af fY (af fZ Pj)))))
theorem aeJ cS fR(G:bS B<=59) fS fT:∀I∈VG,IS A B T aD ae ah E j y I:=
 af f1 (af f1 (af ⟨_,rfl,ard F aj R aA G⟩ (af ⟨_,rfl,aq3 F aj R aA G⟩ (af ⟨_,rfl,ara F aj R aA G⟩ (af f2 (af ⟨_,rfl,aq4 F aj R aA G⟩ (af ⟨_,rfl,aq_ F aj R aA G⟩ (af fU (af fV
 (af fW (af fX (af ⟨_,rfl,arf F aj R aA G⟩ (af ⟨_,rfl,aq8 F aj R aA G⟩ (af fY (af fZ (af f3 (af f3 (af ⟨_,rfl,arc F aj R aA⟩ (af f2 Pj)))))))))))))))))))
theorem apP dM cS dN dH f5 f7 f8
  dI f9:au (Me V dP bU dQ w) aa ai:=by
 have sz:=c.sz (f.L aj al);have EY:wl≠A .mC:=λx=>TP .mC rfl x.symm;have hb1:j+1<=9000:=i.L (i.cs R 1) W;refine X (uc am) (X (mE am.b5) (X (CK am) (X (nX am.jH) (w_ (enc:=λm=> .ad f_) (out:=λm=> .K ga) am.jH (λm an=>?_) ?_))))
 ·have S:B.jH[m]?=n (B.jH[m]'(e.mem_range.mp an)):=e.eG _;show unpackK (.ad f_) _ w=_;rw[Mx (am.ey S),Mk,jX (mE (am.hn S)),e.aN,S];rfl
 have b:(e.dv B.jH.t).Y (λm=>o.K ga)=(B.jH.Y λh=>h.2.t).Y λq:f=>o.K q:=by rw[anM B.jH λr=>o.K (SD r:f),e.e2];rfl
 rw[b];refine kL (by rw[e.aN,e.aN];exact f.L sz.q al) λy h aJ=>X (apA aJ λI bb=>?_) (X dS (db gb (p:=decide gc) ?_ ?_))
 ·obtain ⟨x,bl,b⟩:=e.mem_map.mp bb;exact b▸f.L (sz.g x bl) al
 ·exact ez (aqF am)
 have s1:=aP.grow am h;have hw1:=kZ h aM;cases G:decide gc with
 |true=>exact T5 c R s1 hw1 EY dT (aeJ aj hb1 (f.le_of_lt_succ (e_ G))) aK
 |false=>refine apR ?_;rw[UL hw1 (l':=gd) rfl al];rw[UL (tL hw1) (l':=ge) rfl al];have s2:=(s1.bn (l8 y (.aw gd))).bn (l8 _ (.aw ge));exact X (I2 (tL cj) cj al) (T5 c R (s2.bn gf) cj (f.ne_of_gt (s2.a1.lt (z:= .mC) rfl)) dT (afv aj hb1) aK)
end
end
mutual
section
set_option cd 100000
theorem Up cT cU(b9:0<=j)(Q:j<=1000):∃ar,rO [.K j] w=n (.ok ⟨ar,λs=>cq⟩,w)/\ar.t=j.cH:=by
 refine ⟨(qE 0 j 1).Y .K,?_,?_⟩
 ·refine nS ((j7 rfl).ak ?_);rw[UP bY bY];rfl
 ·rw[e.aN];unfold qE;rw[if_pos W,e.aN,e.dp];rw[show (j -0+1 -1)=j by omega];simp
structure rj(m:f)(d:kG):Prop where
 aT:d.aR=d.B
 aJ:mZ d.B d.T
 kn:qh d
 pl:∀v∈d.T,jP d.B v/\nb v/\gg
 un:bS d.B<=3*m
 a5:d.B.jH.t<=m -2
 px:(d.T.dg lz).t<=m
 l7:d.T.t<=4+m
 ne:d.T≠[]
 p0:0<=d.ah
 p1:d.ah<=4*m
 z:d.ae.t<=100
noncomputable def aqy br gh:aI jI:=O (jT H (.str wQ)) λy0=>O (mG gi y0 lJ) λs=>O (lQ gi y0 lJ [va]) λs=>V th oz va nv
noncomputable def Vo br gh:aI jI:=O (rZ [H,nv,va]) λaE=>k6 .Not aE λaE=>jY aE λj=>(match j with|true=>bp (.bp (.cu false))|false=>aqy V H th oz va nv)
noncomputable def Vn br(H th oz:o):aI jI:=O (wo [H,th,(.tup [(.str wK)])]) λy0=>O (sX [oz]) dU
noncomputable def Mr br(l H th oz U:o):aI jI:=O (um [H,U,th]) λy0=>O (jN .Eq l dV) λj=>(match j with|true=>O (k9 125 sU [oz]) dU|false=>O (k9 104 ug [oz]) dU)
noncomputable def aqu br(l H th oz:o):aI jI:=O (b3 (.aw [fC,(.str Bp)])) λy0=>O (kh .Sub l dV) λy1=>O (jT y0 y1) (Mr V l H th oz)
noncomputable def aqx br(l H th:o) gj:aI jI:=O gk λoz=>O (jN .Lt l dV) λj=>(match j with|true=>Vn V H th oz|false=>aqu V l H th oz)
noncomputable def aqw br(l H:o) gj:aI jI:=O gk λth=>O (m9 th) λbP=>O (ki bP.guard (λy0=>O (jT y0 gl) λy1=>bp [y1]) bP.ar) (aqx V l H th)
noncomputable def Ms br(l bJ H:o):aI jI:=O gn λsJ=>O (kh .Add gl sJ) λCB=>O (rO [CB]) λbP=>O (ki bP.guard (λs=>O gn λy1=>bp [(.tup [(.str yQ),y1])]) bP.ar) (aqw V l H)
theorem aqA(l qd nc j0:o)(tZ t6 qp tY qq rL Cu pQ rM o_args tW tV:ax o):DP l (yH qd nc j0 tZ t6 qp tY qq rL Cu pQ rM o_args tW tV)=
  Ms (λth oz va nv=>bp (.next (yH qd nc j0 he t6 (n th) (n oz) (n va) (n nv) Cu pQ rM o_args tW tV))) l nc j0:=a4
noncomputable def r8(u:aS):Prop:=∃D:i,u= .num D/\0<=D/\D<=2
theorem r8.jP cV cW dW:jP bG u:=by obtain ⟨D,b,_⟩:=a;rw[b];trivial
theorem r8.lv cV cW go:lv A u=lv jM u:=by obtain ⟨D,b,_⟩:=a;rw[b];rfl
theorem r8.code cV cW:codeV u:=by obtain ⟨D,b,g,j⟩:=a;rw[b];exact ⟨g,i.L j W⟩
theorem r8.fit cV cW dW(as:e aS):pV bG as u:=by obtain ⟨D,b,g,j⟩:=a;rw[b];exact ⟨trivial,nofun,i.L W g,i.L j W⟩
theorem r8.FP cl(a:∀u∈ts,r8 u) go:ts.Y (Mine.Internal.lv A)=ts.Y (Mine.Internal.lv jM):=e.map_congr_left λu G=>(a u G).lv A jM
structure wI(m:f)(d:kG):Prop where
 aT:d.aR=d.B
 aJ:mZ d.B d.T
 kn:qh d
 pl:∀v∈d.T,jP d.B v/\nb v/\gg
 un:bS d.B<=3*bf
 a5:d.B.jH.t<=m+1 -2
 px:(d.T.dg lz).t<=m
 l7:d.T.t<=4+m
 p0:0<=d.ah
 p1:d.ah<=4*bf
 z:d.ae.t<=100
theorem Je{m g j p:f} bd(a:g<=3*bf)(h':j<=m+1 -2)(N:p<=4+m):g<=400/\j<=100/\p<1000000:=
 ⟨f.L a (f.L (f.e6 3 gp) al),f.L h' (f.L (f.sub_le _ _) (f.L gp al)),f.eX N (f.eX (f.bI an 4) al)⟩
theorem wI.sz bW bD dX bd:r_ d.B:=by obtain ⟨Q,N,_⟩:=Je an Z.un Z.a5 Z.l7;exact gq
theorem wI.next bW bD dX gr{kn:e aS} gs gt(F:qh gu)(j:∀u∈d.aD,u∈kn)(bj:lz v=true->v∈kn):rj bf gu:=by
 refine ⟨Z.aT,Z.aJ.cf λu G=>e.e3.bo (.cb G),F,λu G=>?_,Z.un,Z.a5,?_,?_,e.append_ne_nil_of_right_ne_nil _ dT,Z.p0,Z.p1,Z.z⟩
 ·rcases e.e3.mp G with G|G
  ·exact ⟨(Z.pl u G).1,(Z.pl u G).2.1,λaC=>j u ((Z.pl u G).2.2 aC)⟩
  ·rw[e.mem_singleton.mp G];exact ⟨aH,vX,bj⟩
 ·show ((d.T++[v]).dg lz).t<=_;rw[e.filter_append,e.cc];exact f.c_ Z.px (R_ v)
 ·show (d.T++[v]).t<=_;rw[e.cc];exact (f.cs Z.l7 1:_<=4+m+1)
mutual
section
variable {w y:jE}{A jM:kD}{d w0:kG}{m:f}{V:o->o->o->o->aI jI}{aa:jI->jE->Prop}{ai:o->jE->Prop}
theorem Vp(H:aP w A w0 y jM d) dX bd gr{l th oz:o}{I:f} gs gt(aL:jM .a2=I)(ao:lv jM v=l) dZ:au (Vo V (.ad I) th oz (tv v) l y) aa ai:=by rw[<-aL,<-ao];refine L0 H.a1 Z.aT (Z.sz an) Z.kn aH λnt vg U F j bj=>?_;have oS:=U.a1;refine X (L3 oS) (X (v7 oS.T) (X (yV oS.T (by rw[e.aN];exact (Je an Z.un Z.a5 Z.l7).2.2)) ?_));have s2:=UX (aP.dw oS) (d.T++[v]);rw[e.map_append] at s2;exact aK fQ (Z.next aH vX ⟨F.nd,F.l⟩ j bj)
theorem nums(bt:vz d):∀(ar:e o) d0 {c:e o->aI jI} d1,D+ar.t<=9->oh w A d D y->(∀(ts:e aS) y,ts.t=ar.t->(∀u∈ts,r8 u)->oh w A d (D+ar.t) y->au (c gw y) aa ai)->
  au (O (ki d2 (λs=>O (qe [.ad dO,gm]) λy1=>bp [(.tup [(.str yQ),y1])]) ar) c y) aa ai:=by
 intro ar;induction ar with
 |ap=>exact λs U a=>sA trivial (a [] _ rfl (λs a=>bH a e.bR) U)
 |a7 l ar ih=>
  intro D c y aW U a;have b:D+1+ar.t=D+(l::ar).t:=by rw[e.length_cons,f.c8,f.c9 1]
  exact sy (z:=ar) trivial (dc bt (f.L dY aW) U W λm jJ g j s s'=>ih (by rw[b];exact aW) s' λts lT Q N s2=>a (.num m::ts) lT (P f.succ Q) (λu G=>(e.dq.mp G).bK (λx=>⟨m,x,g,i.lt_add_one_iff.mp j⟩) (N u)) (by rw[<-b];exact s2))
theorem aqv gx cl gy gz gA cX cY gC(ay:d.aR.b5.t<=100000)
  (Z:wI m ⟨(be d.B .ap ts).1,(be d.aR .ap ts).1,d.T,d.aD,d.ae,d.ah⟩)(vX:nb (be d.B .ap ts).2) gD bd dZ:au (Vn V bU gE gF y) aa ai:=
 lU (EG gH (E:= .ap) a9 d3 ay) (λz MP bT=>by obtain ⟨aey,b,s5⟩:=bT;have aL:=s5.H.l7 .a2 trivial rfl;rw[b,SK];refine lU (alp (H.ak s5) (E:= .ap) ((s5.cE cZ aq).ak (by rw[r8.FP nm aey A];exact mV)) (s5.aq cZ aq) d3 gI trivial) (λz ar1 aE=>?_) λs s a=>a.bK;obtain ⟨_,Pf,eC,Ae⟩:=aE;rw[eC,bw];exact Vp Ae Z an (xG (bG:=d.B) (E:= .ap) trivial ts) vX (Ae.H.l7 .a2 trivial rfl) rfl aK) λs s a=>a.bK
theorem afe dW(h:b2×e aS):jP (bG.lE h) (.arr bG.jH.t):=f.eY (f.lt_succ_self _) (e.cc (b4:=[h])).symm
theorem aqt gx cl gL{l:i}(aC:decide (l=2)= !x) gy gz gA(old:w.t<=n4) cX cY gC(ay:d.aR.jH.t<=100000)
  (Z:wI m ⟨d.B.lE bB,d.aR.lE bB,d.T,d.aD,d.ae,d.ah⟩) gD bd dZ:au (Mr V (.K l) bU gE gF gM y) aa ai:=
 lU (BJ gH a9 d3 ay) (λz ar1 bT=>by
  obtain ⟨Pf,b,Ae⟩:=bT;rw[b,bw];have Ux:=Gg (H.ak Ae) (x:=x) (us:=ts) gI ((Ae.cE cZ aq).ak (by rw[r8.FP nm Pf A];exact mV)) (Ae.aq cZ aq) old;have dd:=Vp (V:=V) (th:= .ad n3) (oz:= .ad n4) Ux Z an (afe d.B bB) trivial (Ux.H.l7 .a2 trivial rfl) (P o.ad (lF _ _ _)) aK;refine db (xm _ _ _) aC ?_;cases x with
  |false=>exact X (K8 _ _) dd
  |true=>exact X (Th _ _) dd) λs s a=>a.bK
theorem Px{u q D:f} bW gO(a:u<=3*m)(bk:q<=3) d4(b9:0<=ah)(Q:ah<=4*m):u+q<=3*bf/\0<=ah+D/\ah+D<=4*bf:=
 ⟨f.c_ a bk,i.da b9 (i.e8 D),i.L (i.c_ Q (i.dt.bo aW)) (i.dn (i.e5 4 bC 1).symm)⟩
theorem rj.be d0 bX cl cY cX d4:wI m ⟨(Mine.Internal.be d.B .ap ts).1,(Mine.Internal.be d.aR .ap ts).1,d.T,d.aD,d.ae,d.ah+D⟩/\nb (Mine.Internal.be d.B .ap ts).2:=by obtain ⟨aiV,nm⟩:=c.aJ.be (E:= .ap) trivial trivial λu G=>(nm u G).fit d.B d.T;obtain ⟨Q,N,aB⟩:=Px c.un ao aW c.p0 c.p1;have le:=made_le d.B .ap ts;exact ⟨⟨by rw[c.aT],aiV,gQ,λu G=>gS,by rw[Mu];exact Q,by rw[vU];exact f.L c.a5 gU,c.px,c.l7,N,aB,c.z⟩,nm⟩
theorem rj.lE d0 gL bX cl cY cX d4(an:2<=m):wI m ⟨d.B.lE bB,d.aR.lE bB,d.T,d.aD,d.ae,d.ah+D⟩:=by obtain ⟨Q,N,aB⟩:=Px c.un ao aW c.p0 c.p1;have le:=d.B.Ci bB;refine ⟨by rw[c.aT],c.aJ.lE (λu G=>(nm u G).fit d.B d.T) λs u G=>(nm u G).code,gQ,λu G=>gS,by rw[Mv];exact Q,?_,c.px,c.l7,N,aB,c.z⟩;show (d.B.jH++[bB]).t<=_;rw[e.cc,f.succ_sub an];exact f.dz c.a5
theorem rj.sz bX bd:r_ d.B:=by obtain ⟨Q,N,_⟩:=Je an (f.L c.un (f.e6 3 gT)) (f.L c.a5 gU) c.l7;exact gq
theorem rj.anW bX bd:vz d:=⟨c.p0,i.L c.p1 (i.L (i.e7 (i.dt.bo an) W) W),c.z,c.ne⟩
theorem aeO bW(a:m<=3)(h':¬bC<2):2<=m/\(bC=2\/bC=3):=bY
theorem ae1 d5 gW(h':D<3):0<=1+D/\1+D<=1000/\(1+D).cH<=3:=by have j:1+D<=3:=i.bI (i.eU h':D<=2) 1;exact ⟨i.da W a,i.L j W,i.ff.bo j⟩
theorem oh.dA d6:oh w A d 0 w:=by show aP w A d w A {d with ah:=d.ah+0};rw[i.add_zero];exact aP.dw am
theorem aqB bX bd d6 gX:au (Ms V gY dP bU w) aa ai:=by
 have bt:=c.anW an;have sz:=c.sz an;rw[<-c.aT] at sz;refine dc bt d7 (oh.dA am) W λD y KG j1 s U=>X dS ?_;obtain ⟨nY,l1,l2⟩:=ae1 KG j1;obtain ⟨ar,hit,hil⟩:=Up y nY l1;rw[<-hil] at l2;refine X hit (nums bt ar (f.L (f.bI l2 _) al) U λts lT ao nm s2=>?_);have bN:ts.t<=3:=ao▸l2;have bh:ts.t<=1000000:=f.L bN al;have aW:0+1+ar.t<=4:=(f.c9 _ _).symm▸f.cs l2 1;refine kL g0 λqL p3 a9=>X (nX a9) (w_ (out:=lv A) a9 (λu G=>?_) (kL g0 λsR p4 mV=>db gb rfl ?_))
 ·obtain ⟨D,b,_⟩:=nm u G;rw[b];exact (jX (Mf _ _)).ak rfl
 have s4:=(s2.bn p3).bn p4;have aq:=(s2.bn p3).a1.aq g2;cases aC:decide (bC<2) with
 |true=>obtain ⟨Z,vX⟩:=c.be nm bN aW;exact aqv g3 mV aq bN nm s4 (f.L sz.p al) Z vX c.aT an aK
 |false=>
  obtain ⟨N,ay⟩:=aeO an (of_decide_eq_false aC);refine kL al λMP oM rC=>X (Ak _ _ _) ?_;have fin:∀x,decide (bC=2)= !x->au (Mr V gV bU (.ad lT.t) (.ad qL.t) gM MP) aa ai:=λx bl=>aqt bl (kZ oM g3) (kZ oM mV) aq (s2.bn p3).H.len bN nm (s4.bn oM) (f.L sz.q al) (c.lE nm bN aW N) c.aT an aK;rcases ay with ay|ay
  ·exact X (nI (c:=0) rC rfl c1) (fin false c1)
  ·exact X (nI (c:=1) rC rfl c1) (fin true c1)
end
end
mutual
section
set_option cd 100000
noncomputable def w0 cQ:kG:=⟨d9,d9,[.num 0,.num 1,.num (-1),.ap],[],ae,0⟩
noncomputable def rk:cp->f
 | .ae=>0
 | .mC=>1
 | .b5=>2
 | .jH=>3
 | .aD=>4
 | .T=>5
 | .a2=>6
 |_=>7
noncomputable def Vr:f->cp
 |0=> .ae
 |1=> .mC
 |2=> .b5
 |3=> .jH
 |4=> .aD
 |5=> .T
 |_=> .a2
noncomputable def Pe g5(z:cp):f:=q+rk z
noncomputable def dy g5 cQ:e ko:=[.aw (ae.Y .K),.aw [.ad q,.K 0],.aw [],.aw [],.cw [],.aw [tv (.num 0),tv (.num 1),tv (.num (-1)),tv .ap],
 .cw [(.str vG,.ad (q+2)),(.str wX,.ad (q+3)),(.str Bo,.ad (q+4)),(.str wQ,.ad (q+5))]]
theorem L4 bA d_{z:cp} g6(a:cont (Pe q) ea z=n r):(dy q ae)[rk z]?=n r/\Vr (rk z)=z:=by cases z<;>first|exact ⟨a,rfl⟩|cases a
theorem api cU cQ:bu (w++dy w.t ae) (Pe w.t) ea:=by
 refine ⟨⟨λz r a=>?_,λz r' a h' b=>?_⟩,⟨λh S=>bH S e.bR,λh S=>bH S e.bR⟩,λv aH=>bH aH e.bR⟩
 ·show (w++_)[w.t+rk z]?=_;rw[e.getElem?_append_right dY,f.add_sub_cancel_left];exact (L4 a).1
 ·obtain ⟨r,a⟩:=ax.dl.mp a;obtain ⟨o',h'⟩:=ax.dl.mp h';exact (L4 a).2.symm.ak ((P Vr (f.add_left_cancel (q:=w.t) b)).ak (L4 h').2)
theorem aeu:sS d9:=λv=>Acc.intro v λu a=>by
 induction a with
 |om a=>cases a
 |pC a=>cases a
 |ho a _=>cases a
theorem apj d_(a:ae.t<=100):rj 0 ea:=by
 refine ⟨rfl,⟨g7,aeu,λts a=>eb,g7,λh S=>c2,λh S=>c2⟩,⟨e.ds,λv aH=>(nomatch aH)⟩,λv aH=>?_,f.bm _,f.bm _,f.bm _,f.bm _,by simp [w0],i.bm _,i.bm _,a⟩;simp only [w0,e.dq,e.bR,or_false] at aH;rcases aH with rfl|rfl|rfl|rfl
 ·exact ed
 ·exact ed
 ·exact ed
 ·exact ⟨trivial,trivial,λa=>by cases a⟩
theorem aoT gB ck gG d5 gJ(aju:k.t<=1000000)(ay:b6 k none c0=l') gP:lY ee none gZ none c w=c g1 g4:=by show O (ry ee) _ w=_;have:ry ee w=n (.ok k,w):=nS (by show kX (f.ble k.t lim) _=_;rw[show f.ble k.t lim=true from f.ble_eq.bo aju];rfl);rw[jX this];show O (b3 (.aw (b6 k none c0))) c w=_;rw[ay,jX g8]
theorem agB(k:e o):b6 k none (n 63)=k.a3 63:=by
 show (k.drop 0).a3 (min 63 k.t -0)=_;rw[e.drop_zero,f.sub_zero];by_cases a:k.t<=63
 ·rw[f.min_eq_right a,e.take_length,e.take_of_length_le a]
 ·rw[f.min_eq_left bY]
theorem Pk cU(k:e ko) g6(a:fits r=true):b3 r (w++k)=n (.ok (.ad (w.t+k.t)),w++(k++[r])):=by rw[Bv _ a,e.cc,e.append_assoc]
theorem ae4{E q:f} cT(a:E+(q+1)<=16)(R:j+10*((q+1:f):i)<=8010):E<=15/\j<=8000/\E+1+q<=16/\j+10+10*bV<=8010:=by have c:j+10+10*bV<=8010:=i.L (i.dn ((i.c8 _ _ _).ak (P (j+·) ((i.c9 _ _).ak (i.e5 10 bV 1).symm)))) R;exact ⟨f.le_of_succ_le_succ (f.L (f.dz (f.eS E q)) a),i.le_of_add_le_add_right (i.L (i.eR (i.mul_nonneg W (i.e8 q))) c:j+10<=8000+10),f.add_right_comm E 1 q▸a,c⟩
mutual
section
variable {sc:o}{J U:f}{aa ai:o->jE->Prop}
theorem apN c3 ck{B:jU}{T aD:e aS} d_ gO{E wl:f} cT g9 g_ ha dM cS dN dH f7 f8
  dI f9:au (Me V c4 c5 dQ w) aa ai:=by
 rw[<-ag,<-M];exact apP c aj R am aM TP aK
theorem aqz c3 ck bD bW g9 g_ ha bX bd d6 fM gX:au (Ms V gY c4 c5 w) aa ai:=by rw[<-ag,<-M];exact aqB c an am aK
theorem aly f5 hc:∀hd hi cT d1 c3 bD {o0 o1 o2 o3 nu xN xO xP xQ xR xM:ax o},E+z.t<=16->j+10*(z.t:i)<=8010->bu y A d->nG E j d->y[wl]?=n f6->Off A d wl->A .mC=J->A .a2=U->
  au (O (forL d2 DQ z (wD sc c4 c5 o0 o1 o2 o3 nu xN dQ xO xP xQ xR xM)) (kY HW bp) y) aa ai:=by
 intro z;induction z with
 |ap=>intro E j y A d o0 o1 o2 o3 nu xN xO xP xQ xR xM aj R am c aM aq ag M;refine tH trivial ?_;rw[abu];exact dk y
 |a7 l z ih=>intro E j y A d o0 o1 o2 o3 nu xN xO xP xQ xR xM aj R am c aM aq ag M;refine tG trivial ?_;rw[apO];obtain ⟨B,aR,T,aD,ae,ah⟩:=d;have bw:aR=B:=c.aT;subst bw;have hlt:=oK aM;obtain ⟨Q,N,aB,bM⟩:=ae4 aj R;exact apN ag M c Q N am aM aq λ{I u g a d' jJ jM w'} H F=>ih aB bM H.a1 F ((H.cE hlt aq).ak aM) (H.aq hlt aq) hf hg
noncomputable def s_(sc:o)(J U:f)(aa ai:o->jE->Prop) hh hd:Prop:=
 ∀d1 c3 bD {o0 o1 o2 o3 nu xN xO xP xQ xR xM Ld:ax o},bu y A d->rj m d->A .mC=J->A .a2=U->au (O (forL d2 DP z (yH sc c4 c5 o0 o1 o2 o3 nu xN xO xP xQ xR xM Ld)) (kY HV bp) y) aa ai
theorem s_.ce bW{z:e o} bd(a:s_ sc J U aa ai bf z):s_ sc J U aa ai m (.K m::z):=by intro y A d o0 o1 o2 o3 nu xN xO xP xQ xR xM Ld am c ag M;refine tG trivial ?_;rw[aqA];exact aqz ag M c an am λ{th oz va nv jJ jM w'} H F=>a H.a1 F hf hg
theorem aeP d5 bA gW(h':D<11):0<=6+D/\6+D<=1000/\(q=(6+D).cH->0+q<=16/\17+10*bV<=8010):=by have g:0<=6+D:=i.da W a;have j:6+D<=16:=i.bI (i.eU h':D<=10) 6;refine ⟨g,i.L j W,λb=>?_⟩;have p:q<=16:=b▸i.ff.bo j;exact ⟨(f.zero_add q).symm▸p,i.L (i.bI (i.e7 (i.dt.bo p) W) 17) W⟩
theorem rj.aru bD(c:rj 4 d):nG 0 17 {d with ah:=d.ah+(0+1:f)}:=
 ⟨c.aT,c.aJ,⟨c.kn.nd,c.kn.l⟩,c.pl,f.L c.un al,c.a5,c.px,c.l7,c.ne,i.L c.p0 fP,i.cs c.p1 1,c.z⟩
theorem s_.last hc:s_ sc J U aa ai 4 []:=by intro y A d o0 o1 o2 o3 nu xN xO xP xQ xR xM Ld am c ag M;refine tH trivial ?_;rw[abt];refine kL (k:=VF) al λvg p1 bL=>kL (k:=VH) al λlT p2 eF=>X (I2 (kZ p2 bL) eF al) (X (v7 cj) (Jp cj al (p1.ak p2).eV ((p1.ak p2).ak gf) λqL p3 a9=>?_));have bt:vz d:=⟨c.p0,i.L c.p1 W,c.z,c.ne⟩;have aq:=am.aq (p1.ak p2).eV;have s3:=aP.grow am p3;rw[<-ag,<-M];refine dc bt d7 (oh.dA s3.a1) W λD sR KG j1 s s4=>X dS ?_;obtain ⟨nY,l1,l2⟩:=aeP (q:=(6+D).cH) KG j1;obtain ⟨l2,l3⟩:=l2 rfl;obtain ⟨ar,hit,hil⟩:=Up sR nY l1;rw[<-hil] at l2 l3;exact X hit (aly dk ar l2 l3 s4.a1 c.aru ((s4.cE hj aq).ak a9) (s4.aq hj aq) rfl rfl)
end
theorem akB(aX:e i)(aL:aX.t<=1000000) cU:∃bZ,AE hk w=n (.ok hb,bZ):=by
 have key:au (AE hk w) (λz s=>z= .cu true) (λs s=>False):=by
  have ao:(aX.a3 63).t<=63:=e.length_take_le _ _;have bh:∀bE (aU:i->α),((aX.a3 63).Y aU).t<=1000000:=λaU=>by rw[e.aN];exact f.L ao al
  rw[aaR,aoT (l':=(aX.a3 63).Y o.K) (by rw[e.aN];exact aL) (by rw[agB,e.map_take]) (bh _)];have bL:=mO w (.aw hl);refine X (nX bL) (w_ (out:=λm:i=> .K m.dr) bL (λm s=>rfl) ?_);have b:(aX.a3 63).Y (λm:i=>o.K m.dr)=((aX.a3 63).Y λm:i=>c6).Y o.K:=by rw[e.e2];rfl
  rw[b];have cB:((aX.a3 63).Y λm:i=>c6).t<=100:=by rw[e.aN];exact f.L ao al
  have bi:fits (.aw (((aX.a3 63).Y λm:i=>c6).Y o.K))=true:=Rb (by rw[e.aN];exact bh _);revert cB bi;generalize (aX.a3 63).Y (λm:i=>c6)=ae;intro cB bi;clear b bL bh ao;generalize w++[ko.aw hl]=y;refine X (Bv y bi) (X (Pk y [_] rfl) (X cm (X cm (X cm (X cm (X cm (X (g:=⟨[.K 0,.K 1,.K 2,.K 3],λs=>cq⟩) ef ?_)))))));exact s_.ce (m:=0) d7 (s_.ce (m:=1) al (s_.ce (m:=2) al (s_.ce (m:=3) g2 (s_.last λs=>rfl)))) (api y ae) (apj cB) rfl rfl
 obtain ⟨z,bZ,b,a⟩:=key.some_of;exact ⟨bZ,a▸b⟩
end
mutual
section
open co.ei co.Calls
set_option cd 100000
theorem ab bE[DecidableEq α]{g j:α}(a:mL g j=true):g=j:=e_ a
theorem qU bE{r:ax α}{h:α->b2} fi(a:qA r h=true)(c:∀g,r=n g->h g=true->as):as:=by
 cases r with
 |none=>exact a8 a
 |n g=>exact c g rfl a
theorem afh fj{g:Bn}(a:Jk v=n g):v= .ct g:=by
 cases v with
 |ct I=>exact P o.ct bq
 |_=>exact bc a
theorem MA ch dC(a:Mz v=n g):v= .aO g:=by
 cases v with
 |aO I=>exact P av.aO bq
 |_=>exact bc a
theorem aqP ch{g:i}(a:vInt v=n g):∃E,v= .K g E:=by
 cases v with
 |K I E=>exact ⟨E,P (av.K · E) bq⟩
 |_=>exact bc a
theorem aqQ ch{g:aZ}(a:vStr v=n g):∃E,v= .str g E:=by
 cases v with
 |str I E=>exact ⟨E,P (av.str · E) bq⟩
 |_=>exact bc a
theorem agK cK{g:FuncData}(a:Qo v=n g):v= .di g:=by
 cases v with
 |di I=>exact P bs.di bq
 |_=>exact bc a
theorem agI cK{g:c7}(a:Qm v=n g):v= .a6 g:=by
 cases v with
 |a6 I=>exact P bs.a6 bq
 |_=>exact bc a
theorem agJ cK fk(a:Qn v=n g):v= .df g:=by
 cases v with
 |df I=>exact P bs.df bq
 |_=>exact bc a
theorem agL cK fk(a:Qp v=n g):∃q,v= .seq g q:=by
 cases v with
 |seq I q=>exact ⟨q,P (bs.seq · q) bq⟩
 |_=>exact bc a
theorem abo(a:aY):(KF a).In a:=by
 intro g r;have key:∀(k:e b0),(k.eE λg=>(a.aV g).Y λr=>(g,r)).eW g=n r->a.aV g=n r:=by
  intro k;induction k with
  |ap=>exact λb=>bc b
  |a7 j k ih=>
   rw[e.filterMap_cons];rcases R:a.aV j with _|ob
   ·exact ih
   ·intro b;have b:(match g==j with|true=>n ob|false=>e.eW g (k.eE λg=>(a.aV g).Y λr=>(g,r)))=n r:=b;cases x:g==j with
    |false=>rw[x] at b;exact ih b
    |true=>rw[x] at b;rw[eq_of_beq x,R];exact b
 exact key Om
theorem afo cL cM ci(a:PJ F p l=true):Gz F p l:=
 C a λg a=>C a λj a=>C a λp a=>C a λJ b=>⟨g,j,ab p,ab J,b⟩
theorem afn{as:f->aZ->Prop} cM ci{k:e (f×aZ)}:(∀h∈k,as h.1 h.2)->mT p l k=true->as p l:=by
 induction k with
 |ap=>exact λs b=>a8 b
 |a7 h k ih=>
  intro a b;have b:(match f.beq p h.1 with|true=>(match j4 l h.2 with|true=>true|false=>mT p l k)|false=>mT p l k)=true:=b;have z:=ih λh S=>a h fl;cases x:f.beq p h.1 with
  |false=>rw[x] at b;exact z b
  |true=>
   rw[x] at b;cases q':j4 l h.2 with
   |false=>rw[q'] at b;exact z b
   |true=>rw[f.de x,n8.mp q'];exact a h dR
theorem akf cL(a:Sb F=true):HT F:=
 C a λg a=>C a λeu a=>C a λev a=>C a λp a=>C a λJ b=>
 ⟨λl aC=>C (e.aQ.mp g l aC) λh a=>C a λx a=>C a λz U=>⟨h,x,ab z,ab U⟩,⟨ab eu,ab ev⟩,λl aC=>C (e.aQ.mp p l aC) λh x=>⟨h,ab x⟩,
  λl aC aE cC=>ab (e.aQ.mp (e.aQ.mp J l aC) aE cC),λl aC aE cC=>ab (e.aQ.mp (e.aQ.mp b l aC) aE cC)⟩
theorem agh{g m:f}(a:P7 aF.F g m=true):GY g m:=
 C a λg a=>C a λj a=>C a λp J=>⟨g,ab j,ab p,J⟩
theorem alL cL cM ci dC(a:SY F p l g=true):D6 F p l g/\dm F fm=true:=
 C a λg a=>C a λj a=>C a λp a=>C a λJ b=>⟨⟨g,j,ab p,ab J⟩,b⟩
theorem alH{as:f->aZ->f->Prop} cM ci dC{k:e (f×aZ×f)}:(∀h∈k,as h.1 h.2.1 h.2.2)->oX k p l=n g->as p l g:=by
 induction k with
 |ap=>exact λs b=>bc b
 |a7 h k ih=>
  intro a b;have b:(match f.beq h.1 p with|true=>(match j4 h.2.1 l with|true=>n h.2.2|false=>oX k p l)|false=>oX k p l)=n g:=b;have z:=ih λh S=>a h fl;cases x:f.beq h.1 p with
  |false=>rw[x] at b;exact z b
  |true=>
   rw[x] at b;cases q':j4 h.2.1 l with
   |false=>rw[q'] at b;exact z b
   |true=>rw[q'] at b;rw[<-f.de x,<-n8.mp q',<-ax.n.bx b];exact a h dR
theorem arH cL(a:VJ F=true):yO F/\findIn F fn "__init__"=n (n fo)/\typeIn F fo=n (.type "function")/\dm F fn=true:=
 C a λg a=>C a λj a=>C a λp a=>C a λJ a=>C a λb a=>C a λaU a=>C a λaJ a=>C a λm a=>C a λD c=>
 ⟨⟨ab g,ab j,ab p,ab J,ab b,qU aU λaG Q N=>C N λN aB=>⟨aG,Q,N,ab aB⟩,ab aJ⟩,ab m,ab D,c⟩
theorem am7{h:Arguments}{bv:e Arg}(Q:h.posonlyargs=[])(N:h.args=bv)(aB:h.vararg=none)(bM:h.kwonlyargs=[])(bg:h.kwarg=none):h=⟨[],bv,none,[],h.eQ,none,h.eA⟩:=by obtain ⟨p1,p2,p3,p4,oM,sH,qC⟩:=h;cases Q;cases N;cases aB;cases bM;cases bg;rfl
mutual
section
variable {a:aY}(c:∀j r,a.aV j=n r->aF.bO.aV j=n r)
include c
theorem agn{x:aZ} ch(b:codeB a x v=true):aF.bO.CodeRec v x:=
 qU b λp ay b=>qU b λr az b=>qU b λvs aH b=>qU b λd aM b=>qU b λq' bl b=>by obtain ⟨E,bl⟩:=aqQ bl;exact ⟨p,r,vs,E,MA ay,c _ _ az,agJ aH,by rw[aM,bl,n8.mp b]⟩
theorem ag9{J:o}{d:av} cN(b:Qx J d=true):∀ρ a,jG ρ a J d:=by
 cases J with
 |none=>cases d with
  |none=>exact λs s=> .none
  |_=>exact a8 b
 |dj g=>exact qU b λj R b=>C b λag M s s=>by rw[MA R,<-f.de ag];exact .dj fp
 |_=>exact a8 b
theorem ag_{b8:e o} ch cN(b:Qw a b8 v=true):(b8=[]/\v= .none)\/∃J d bF oT q,b8=[J]/\v= .aO bF/\aF.bO.aV bF=n oT/\oT.b7= .seq #[d] q/\∀ρ a,jG ρ a J d:=by
 rcases b8 with _|⟨J,_|⟨_,_⟩⟩
 ·cases v with
  |none=>exact .cb ⟨rfl,rfl⟩
  |_=>exact a8 b
 ·refine .inr (qU b λbF eK b=>qU b λr az b=>qU b λxs aC b=>?_);obtain ⟨q,aC⟩:=agL aC;rcases xs with ⟨_|⟨d,_|⟨_,_⟩⟩⟩
  ·exact a8 b
  ·exact ⟨J,d,bF,r,q,rfl,MA eK,c _ _ az,aC,ag9 c a_ b⟩
  ·exact a8 b
 ·exact a8 b
theorem aix fq cN(b:BP a h=xq h.2.1)(aL:(xq h.2.1).eP=true):DK h.1 h.2.1 h.2.2:=by
 unfold xq at b aL;rcases x:Aj h.2.1 with _|u
 ·rw[x] at aL;exact a8 aL
 ·rw[x] at b;refine ⟨u,x,jZ (show BP a h=n _ from b) λr az b=>jZ b λcy bi b=>?_⟩;replace b:=ax.n.bx b;have a0:=P (λl=>l.2.2.2.2.2) b;exact C (P (λl=>l.2.2.2.2.2.2.2.2.2.2) b:_=true) λay ba=>⟨r,cy,cy.du.eQ,cy.du.eA,c _ _ az,agK bi,am7 fr dF ft fv fx,P cO a0,P fs a0,P dG a0,P fu a0,P fw a0,agn c ay,ag_ c a_ ba⟩
end
theorem Pp:r7.all (λh=>(xq h.2.1).eP)=true:=a4
noncomputable def ve:e Arg×e Stmt×Scope:=((Aj fz).getD default)
theorem arF:∃p1 p2 p3 p4 oM sH qC qD,ve.2.1=[.eg [.eh (.cn "self" p1) "symbol" p2] (.cn "symbol" p3) p4,.eg [.eh (.cn "self" oM) "data" sH] (.cn "data" qC) qD]:=
 ⟨_,_,_,_,_,_,_,_,rfl⟩
theorem arE:IT ve.1 ve.2.1 ve.2.2:=
 ⟨wH.of a4,a4,⟨a4,a4,a4⟩,arF⟩
theorem arD fA(a:DK g fz []):FnAt g ve.1 ve.2.1 ve.2.2 []:=by obtain ⟨h,S,a⟩:=a;rw[show h=ve by unfold ve;rw[S];rfl] at a;exact a
theorem Oe fq hh(a:r7[m]?=n h):h∈r7:=e.e4 a
theorem zQ bE dD bA fi(a:k.t=q+1)(c:∀g z,k=g::z->z.t=q->as):as:=by
 cases k with
 |ap=>exact bH a nofun
 |a7 g z=>exact c g z rfl (f.succ.bx a)
theorem six bE dD(a:k.t=6):∃g j p J b aU,k=[g,j,p,J,b,aU]:=
 zQ a λg k b9 a=>zQ a λj k Q a=>zQ a λp k N a=>zQ a λJ k aB a=>zQ a λb k bM a=>zQ a λaU k bg a=>⟨g,j,p,J,b,aU,by rw[b9,Q,N,aB,bM,bg,e.eq_nil_of_length_eq_zero a]⟩
theorem amJ fB{p:av}{J:bs}{k:e (ax av)}(Q:r.a6=p)(N:r.b7=J)(aB:r.cF.cG=k):r=⟨p,r.cw,J,k.fe⟩:=by obtain ⟨_,_,_,_⟩:=r;cases Q;cases N;cases aB;rfl
theorem agg{p:c7}{I:e av}{u v:b2}(Q:p.mro=I)(N:p.eM=u)(aB:p.eL=v):p=⟨p.name,p.bases,I,p.ns,p.fa,u,p.fb,p.fc,p.et,p.ex,v⟩:=by rw[<-Q,<-N,<-aB]
theorem arG fB{aG:c7}{b1:e av}(ba:r.b7= .a6 aG)(b:(r.a6,aG.mro,aG.eM,aG.eL,r.cF.cG.t,r.cF.cG[4]?)=(av.type "type",.aO 38::b1,true,false,6,n (n (av.builtin "Exception.__new__")))):
  ∃nm x V b4 sn cf cr col cv k0 k1 k2 k3 k5,r=excClassObj nm x 38 V b4 b1 true sn cf cr col cv k0 k1 k2 k3 k5 "Exception.__new__":=by
 obtain ⟨k0,k1,k2,k3,k4,k5,bg⟩:=six fx;have a0:r.cF.cG[4]?=_:=P (·.2.2.2.2.2) b;rw[bg] at a0;have a0:k4=_:=ax.n.bx a0;rw[a0] at bg;exact ⟨aG.name,aG.fa,aG.ns,aG.bases,aG.fb,aG.fc,aG.et,aG.ex,r.cw,k0,k1,k2,k3,k5,amJ fr (ba.ak (P bs.a6 (agg dF ft fv))) bg⟩
theorem e9{U a:aY}(c:∀j r,U.aV j=n r->a.aV j=n r)(b:Ti U=n (av.aO 58,true)):∃ox od,InstAt a 64 ox 58 (n od)/\a.aV 64=n ox/\ox.a6=av.aO 58:=
 jZ b λr az b=>jZ b λJ ba b=>jZ b λod hod b=>by
  have b:=ax.n.bx b;have Q:r.a6=av.aO 58:=P cO b;have N:(match r.b7 with| .plain=>true|_=>false)=true:=P (·.2) b;clear b;refine ⟨r,od,⟨c _ _ az,Q,?_,by rw[ba];exact c _ _ hod⟩,c _ _ az,Q⟩;unfold notCls;cases x:r.b7 with
  |a6=>rw[x] at N;exact a8 N
  |_=>rfl
theorem al3{mg mb:aZ->ax av} ci fj cN(b:K2 mg mb l v=true):∃d,(mg l=n d\/(mg l=none/\mb l=n d))/\∀ρ a,jG ρ a v d:=by
 unfold K2 at b;rcases Q:Bx v with _|g
 ·rw[Q] at b;rcases N:Jk v with _|j
  ·rw[N] at b;exact qU b λm an b=>qU b λd aM b=>qU b λD aW b=>by obtain ⟨E,rfl⟩:=aqP aW;exact ⟨_,.cb aM,λs s=>by rw[qO an,ab b];exact .K D E⟩
  ·rw[N] at b;exact C b λag M=>⟨_,.inr ⟨ab ag,ab M⟩,λs s=>afh N▸ .ct j rfl⟩
 ·rw[Q] at b;exact C b λag M=>⟨_,.cb (ab ag),λs s=>afj Q▸ .dj fp⟩
theorem akz cP{U:Shared}(b:obs U=val)(c:∀j r,U.b_.aV j=n r->a.aV j=n r):∃mg,a.Ns e1 mg/\mg "law"=n (.aO 643):=
 C fD λs M=>C M λn1 M=>C M λs M=>C M λs M=>C M λs M=>C M λs S5=>⟨_,(aY.Ns.cD n1).bQ c,ab S5⟩
theorem aeI fE:Gx:=by
 have b:=ok.ob;have c:=ok.keep;have eB:(r7.Y (BP aF.top.b_))=r7.Y λh=>xq h.2.1:=P (·.2.2.2) b;refine jZ (show VK aF.top.b_=n _ from P dG b) λox hox cx=>jZ cx λaG hcd cx=>?_;refine C fD λag M=>C ag λen ag=>C ag λeo ag=>C ag λep ag=>C ag λeq ag=>C ag λer es=>C M λn1 M=>C M λn2 M=>C M λn3 M=>C M λn4 M=>C M λal0 S5=>?_;have fns:∀h∈r7,BP aF.top.b_ h=xq h.2.1:=λh S=>e.map_inj_left.mp eB h S;have a_:644<=aF.bO.objs.size:=by have x:=e.aQ.mp Pp fF fG;rw[<-fns fF fG] at x;obtain ⟨l,x⟩:=ax.dl.mp x;exact jZ x λr az s=>aY.e0 (c _ _ az)
 have dh:∀h∈r7,DJ h.1 h.2.1 h.2.2:=λh S=>⟨e.aQ.mp es h S,aix c a_ (fns h S) (e.aQ.mp Pp h S)⟩;have amx:aF.bO.Ns e1 _:=(aY.Ns.cD n1).bQ c;obtain ⟨x1,x2,x3,x4⟩:=arH er;obtain ⟨TZ,od,ajH,aiI,afI⟩:=e9 c dF;obtain ⟨nm,x,V,b4,sn,cf,cr,col,cv,k0,k1,k2,k3,k5,az⟩:=arG (agI hcd) (ax.n.bx cx);have aiK:q6 (tb Dl):=⟨(abo aF.top.b_).bQ c,⟨TZ,aiI,by rw[afI];exact nofun⟩,f.eZ W a_,⟨_,(aY.Ns.cD n3).bQ c,ab n4⟩,akf eo,⟨TZ,od,ajH⟩,
  λp l x=>afn (as:=λp l=>Gz aF.F p l) (λh S=>afo (e.aQ.mp en h S)) x,⟨_,_,amx,(aY.Ns.cD n2).bQ c,λl v x=>al3 a_ (e.aQ.mp al0 _ (alr x))⟩⟩
 have air:=dh (35,eO fy 0,[]) (Oe 70 a4);have arI:Bl:=⟨x1,⟨nm,x,V,b4,sn,cf,cr,col,cv,k0,k1,k2,k3,k5,az▸c _ _ hox⟩,x2,x3,⟨_,_,_,arE,arD air.stands⟩⟩;exact ⟨⟨aiK,arI,λp l g x=>alH (as:=λp l g=>D6 aF.F p l g/\dm aF.F fm=true) (λh S=>alL (e.aQ.mp ep h S)) x⟩,x4,λm h S=>agh (e.aQ.mp eq h fH),
  λm h S=>dh h (e.mem_append_left _ fH)⟩
end
mutual
section
open co.ei co.Calls
set_option cd 100000
theorem ab2 cP fA{I m':aZ->ax av}(l:a.Ns g I)(aE:a.Ns g m')(q:aZ):I q=m' q:=by obtain ⟨r,hq,hp,az,ba,_,bi⟩:=l;obtain ⟨o',es',ahX,ho',hd',_,hf'⟩:=aE;rw[az] at ho';cases ho';rw[ba] at hd';cases hd';rw[<-bi,<-hf']
theorem ajY{ρ:jV} cP{vs:e av}{ns:e i}(l:ek vs ns):jR ρ a fI vs:=by
 induction l with
 |ap=>exact .ap
 |a7 q E l ih=>exact .a7 (.K q E) ih
set_option tactic.hygienic true in
theorem afd{d:World} cP{ew:aZ->ax b0}{args:e WData}{cg:e av}{bv:e b0}(cA:u7.ae.toRowW.claim.pre args=true)(cz:WData.layableAll args=true)(hrd:ReadsAllW [] ew a cg args bv)(hwl:WellAll d.du a cg args)(hlo:∀g∈bv,(g==sysModules)=false):
  ∃(k:b0) (vs:e av) (ns:e i),cg=[.aO k]/\a.IsList k vs.fe/\ns.t<=1000000/\ek vs ns:=by
 wrow_args cA cz hrd hwl hlo
 rename_i ns _ _ _ _ _ _ bh _ _ _ eJ _ ay _;exact ⟨_,_,ns,rfl,bh,bY,eJ⟩
theorem ari fE:A8 aF.prog aF.d aF.bO:=λU k vs ns aa aL ao bk aH x=>by
 obtain ⟨bZ,b⟩:=akB ns bk [];have a_:k<b1:=let ⟨_,az,_⟩:=ao;f.eY (aY.e0 az) (P fJ aL);refine (ab6 (aeI ok)).run (ρ:=[]) (w:=[]) (vs:=[.tK fI]) ⟨rfl,W,W,[],rfl,λs a=>nomatch a⟩ ⟨λs s b=>aL▸b,f.dn (P fJ aL.symm),rfl,e.ds,λs a=>eb,λq r a=>eb⟩ (.a7 (.tK fK a_ ao (ajY aH)) .ap) b ?_ ?_
 ·intro v w' ρ' oF h' tk l aJ rv e';cases e';cases rv;exact x h' tk (λj r b=>l.get b fK) λj r b=>aJ.base j r (aL▸b)
 ·intro q ρ' oF h' tk l jK;cases jK
set_option maxHeartbeats 8000000 in
theorem Tst:u7.Holds:=by
 refine holds_law dx λdx=>?_;refine holds_open (x:=xW) (loose:=zU) (Xt:=recOk []) (XP:=λs s=>cq) hleft bj.of bj.bQ (λs s=>trivial) (λs s s s s=>trivial) (J:=?J) (kwd:=?kwd) ?Q ?N ?aB (λU b=>recFacts_of b) ef dx looks aj2 ?aM ?ay
 case Q=>rfl
 case N=>rfl
 case aB=>rfl
 case aM=>w_witness2
 intro d s₀ s₁ mg mb ej em eD r pm aG doc hm kV az ba hcd bw ca eN args cg bv cA cz hrd hwl hlo;clear az ba hcd bw;have ca:mg "law"=n (.aO eD):=ca;obtain ⟨U,b,c⟩:=em;obtain ⟨mg',n1,n2⟩:=akz b c;rw[ab2 ej.bF.aJ n1,n2] at ca;cases ca;obtain ⟨k,vs,ns,rfl,ao,bk,aH⟩:=afd cA cz hrd hwl hlo;exact enter_call (aky b c ari _ k vs ns _ rfl ao bk aH λh' tk s c=>⟨.cb ⟨_,_,_,rfl,λs=>rfl,.cu true,by wrow_post,λs=>⟨e.ds,λs a=>nomatch a⟩⟩,.of_keep c,rfl,.of_eq eN⟩)
end
end
end Mine.Internal
end
theorem PySem.Challenge.cw_sq0005_01_holds : PySem.Challenge.rw_sq0005_01.Holds :=
 Mine.Internal.Tst
